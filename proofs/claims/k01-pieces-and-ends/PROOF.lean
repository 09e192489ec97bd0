import PyProof.Rows.All
import Wide.All
import OpenK.AllK
import Wide.FinOn
import HandS.ForMost
import HandS.IsInst
import HandS.Deep
import HandS.TupAny
import KE.SortData
import KE.DataEq
import KE.DataCmp
import KE.DataMinMax
import HandS.Rev
import HandS.Zip
import PySem.Challenge.RW_cutjoin_k01_pieces_and_ends
set_option Elab.async false
set_option linter.all false
set_option maxRecDepth 100000
set_option maxHeartbeats 4000000
/-! Data in the abstract heap: a value stands for a datum; what a reading yields as a datum. -/
namespace CJ
open PySem L2

abbrev D := PyData

/-- the heap without the addresses R -/
def hide (R : List Addr) (H : Hp) : Hp := fun a => if a ∈ R then none else H a
theorem hide_nil (H : Hp) : hide [] H = H := by
  funext a
  simp [hide]
theorem hide_sub {R : List Addr} {H : Hp} : Same (hide R H) H := fun a o h => by
  unfold hide at h
  split at h
  · cases h
  · exact h
theorem hide_mono {R : List Addr} {H H' : Hp} (e : Same H H') : Same (hide R H) (hide R H') := fun a o h => by
  unfold hide at h ⊢
  split at h
  · cases h
  · rename_i ha
    rw [if_neg ha]
    exact e a o h
theorem hide_cons_sub {p : Addr} {R : List Addr} {H : Hp} : Same (hide (p :: R) H) (hide R H) := fun a o h => by
  unfold hide at h ⊢
  split at h
  · cases h
  · rename_i ha
    rw [if_neg (fun z => ha (List.mem_cons_of_mem _ z))]
    exact h
theorem hide_get {R : List Addr} {H : Hp} {a : Addr} (h : a ∉ R) : hide R H a = H a := by
  unfold hide
  rw [if_neg h]
theorem hide_in {R : List Addr} {H : Hp} {a : Addr} (h : a ∈ R) : hide R H a = none := by
  unfold hide
  rw [if_pos h]

/-- an address is in use -/
def Used (R : List Addr) (H : Hp) : Prop := ∀ a ∈ R, H a ≠ none
theorem Used.mono {R : List Addr} {H H' : Hp} (u : Used R H) (e : Same H H') : Used R H' := fun a ha hn => by
  cases q : H a with
  | none => exact u a ha q
  | some o =>
    rw [e a o q] at hn
    cases hn
theorem Used.nil {H : Hp} : Used [] H := fun _ h => nomatch h
theorem Used.new {R : List Addr} {H : Hp} {p : Addr} (u : Used R H) (hp : H p = none) : p ∉ R := fun h => u p h hp
theorem Same.upd_new {H : Hp} {p : Addr} {o : HO} (hp : H p = none) : Same H (upd H p o) := fun a u e => by
  rw [upd_ne (ne_of_none e hp)]
  exact e
theorem Same.mut {H H' : Hp} {p : Addr} {o : HO} (e : Same H H') (h : H p = none) : Same H (upd H' p o) := fun a u ha => by
  rw [upd_ne (ne_of_none ha h)]
  exact e a u ha
theorem Same.none {H H' : Hp} {p : Addr} (e : Same H H') (h : H' p = none) : H p = none := Same.free e h
/-- hidden and then changed at a hidden place -/
theorem hide_upd {R : List Addr} {H : Hp} {p : Addr} {o : HO} (h : p ∈ R) : hide R (upd H p o) = hide R H := by
  funext a
  unfold hide
  by_cases ha : a ∈ R
  · rw [if_pos ha, if_pos ha]
  · rw [if_neg ha, if_neg ha, upd_ne (fun e => ha (by rw [e]; exact h))]
theorem hide_upd_ne {R : List Addr} {H : Hp} {p : Addr} {o : HO} (h : p ∉ R) : hide R (upd H p o) = upd (hide R H) p o := by
  funext a
  unfold hide upd
  by_cases ha : a = p
  · subst ha
    rw [if_neg h, if_pos rfl, if_pos rfl]
  · rw [if_neg ha, if_neg ha]

/-! ### a value stands for a datum -/
mutual
inductive Dv (K : PySem.W.Frag) (H : Hp) : V → D → Prop
  | non : Dv K H .non .none
  | bl (b : Bool) : Dv K H (.bl b) (.bool b)
  | int (i : Int) : Dv K H (.int i) (.int i)
  | str (x : Str) : Dv K H (.str x) (.str x)
  | lst {a : Addr} {xs : List V} {ds : List D} : SqL K H a xs → DvAll K H xs ds → Dv K H (.ref a) (.list ds)
  | tup {a : Addr} {xs : List V} {ds : List D} : SqT K H a xs → DvAll K H xs ds → Dv K H (.ref a) (.tuple ds)
  | dct {a : Addr} {kvs : List (Key × V)} : H a = some (.dK kvs) → Dv K H (.ref a) (.dict [])
inductive DvAll (K : PySem.W.Frag) (H : Hp) : List V → List D → Prop
  | nil : DvAll K H [] []
  | cons {v : V} {vs : List V} {d : D} {ds : List D} : Dv K H v d → DvAll K H vs ds → DvAll K H (v :: vs) (d :: ds)
end
theorem Same.sqT {K : PySem.W.Frag} {H H' : Hp} {a : Addr} {xs : List V} (e : Same H H') (h : SqT K H a xs) : SqT K H' a xs := by
  rcases h with (h | ⟨o, h⟩) | h
  · exact .inl (.inl (e _ _ h))
  · exact .inl (.inr ⟨o, e _ _ h⟩)
  · exact .inr h
theorem Same.rd {H H' : Hp} {a : Addr} {u : HO} (e : Same H H') (h : Rd H a u) : Rd H' a u := by
  rcases h with h | ⟨o, h⟩
  · exact .inl (e _ _ h)
  · exact .inr ⟨o, e _ _ h⟩
section
variable {K : PySem.W.Frag} {H H' : Hp}
mutual
theorem Dv.mono (e : Same H H') : ∀ {v : V} {d : D}, Dv K H v d → Dv K H' v d
  | _, _, .non => .non
  | _, _, .bl b => .bl b
  | _, _, .int i => .int i
  | _, _, .str x => .str x
  | _, _, .lst h t => .lst (Same.seq e h) (DvAll.mono e t)
  | _, _, .tup h t => .tup (Same.sqT e h) (DvAll.mono e t)
  | _, _, .dct h => .dct (e _ _ h)
theorem DvAll.mono (e : Same H H') : ∀ {vs : List V} {ds : List D}, DvAll K H vs ds → DvAll K H' vs ds
  | _, _, .nil => .nil
  | _, _, .cons h t => .cons (Dv.mono e h) (DvAll.mono e t)
end
theorem DvAll.length : ∀ {vs : List V} {ds : List D}, DvAll K H vs ds → vs.length = ds.length
  | _, _, .nil => rfl
  | _, _, .cons _ t => by rw [List.length_cons, List.length_cons, DvAll.length t]
theorem DvAll.get : ∀ {vs : List V} {ds : List D} {i : Nat} {d : D}, DvAll K H vs ds → ds[i]? = some d → ∃ v, vs[i]? = some v ∧ Dv K H v d
  | _, _, _, _, .nil, e => by simp at e
  | _, _, 0, _, .cons h _, e => by simp at e; subst e; exact ⟨_, rfl, h⟩
  | _, _, i + 1, d, .cons _ t, e => by
    obtain ⟨v, h1, h2⟩ := DvAll.get (i := i) (d := d) t (by simpa using e)
    exact ⟨v, by simpa using h1, h2⟩
theorem DvAll.getv : ∀ {vs : List V} {ds : List D} {i : Nat} {v : V}, DvAll K H vs ds → vs[i]? = some v → ∃ d, ds[i]? = some d ∧ Dv K H v d
  | _, _, _, _, .nil, e => by simp at e
  | _, _, 0, _, .cons h _, e => by simp at e; subst e; exact ⟨_, rfl, h⟩
  | _, _, i + 1, d, .cons _ t, e => by
    obtain ⟨v, h1, h2⟩ := DvAll.getv (i := i) (v := d) t (by simpa using e)
    exact ⟨v, by simpa using h1, h2⟩
theorem DvAll.append : ∀ {vs us : List V} {ds es : List D}, DvAll K H vs ds → DvAll K H us es → DvAll K H (vs ++ us) (ds ++ es)
  | _, _, _, _, .nil, s => s
  | _, _, _, _, .cons h t, s => .cons h (DvAll.append t s)
theorem DvAll.take : ∀ {vs : List V} {ds : List D} (n : Nat), DvAll K H vs ds → DvAll K H (vs.take n) (ds.take n)
  | _, _, 0, _ => .nil
  | _, _, _ + 1, .nil => .nil
  | _, _, n + 1, .cons h t => .cons h (DvAll.take n t)
theorem DvAll.drop : ∀ {vs : List V} {ds : List D} (n : Nat), DvAll K H vs ds → DvAll K H (vs.drop n) (ds.drop n)
  | _, _, 0, h => h
  | _, _, _ + 1, .nil => .nil
  | _, _, n + 1, .cons _ t => DvAll.drop n t
theorem DvAll.reverse : ∀ {vs : List V} {ds : List D}, DvAll K H vs ds → DvAll K H vs.reverse ds.reverse
  | _, _, .nil => .nil
  | _, _, .cons h t => by
    rw [List.reverse_cons, List.reverse_cons]
    exact DvAll.append (DvAll.reverse t) (.cons h .nil)
theorem DvAll.set {v : V} {d : D} (h : Dv K H v d) : ∀ {vs : List V} {ds : List D} (i : Nat), DvAll K H vs ds → DvAll K H (vs.set i v) (ds.set i d)
  | _, _, _, .nil => .nil
  | _, _, 0, .cons _ t => .cons h t
  | _, _, i + 1, .cons q t => .cons q (DvAll.set h i t)
theorem DvAll.ints : ∀ (ns : List Int), DvAll K H (ns.map V.int) (ns.map PyData.int)
  | [] => .nil
  | n :: ns => .cons (.int n) (DvAll.ints ns)
theorem DvAll.strs : ∀ (ns : List Str), DvAll K H (ns.map V.str) (ns.map PyData.str)
  | [] => .nil
  | n :: ns => .cons (.str n) (DvAll.strs ns)
theorem Dv.ints_inv : ∀ {vs : List V} {ns : List Int}, DvAll K H vs (ns.map PyData.int) → vs = ns.map V.int
  | _, [], h => by cases h; rfl
  | _, n :: ns, h => by
    cases h with
    | cons h t =>
      cases h
      rw [Dv.ints_inv t]
      rfl
theorem Dv.strs_inv : ∀ {vs : List V} {ns : List Str}, DvAll K H vs (ns.map PyData.str) → vs = ns.map V.str
  | _, [], h => by cases h; rfl
  | _, n :: ns, h => by
    cases h with
    | cons h t =>
      cases h
      rw [Dv.strs_inv t]
      rfl
theorem Dv.bools_inv : ∀ {vs : List V} {ns : List Bool}, DvAll K H vs (ns.map PyData.bool) → vs = ns.map V.bl
  | _, [], h => by cases h; rfl
  | _, n :: ns, h => by
    cases h with
    | cons h t =>
      cases h
      rw [Dv.bools_inv t]
      rfl
end

mutual
/-- no list and no dict within: it never changes -/
def pureD : D → Bool
  | .none | .bool _ | .int _ | .str _ => true
  | .tuple xs => pureL xs
  | .list _ => false
  | .dict _ => false
def pureL : List D → Bool
  | [] => true
  | d :: ds => pureD d && pureL ds
end
theorem pureL_cons (d : D) (ds : List D) : pureL (d :: ds) = (pureD d && pureL ds) := by rw [pureL]
theorem szL {α : Type} {l : List α} (n : Nat) (h : l.length = n) (hn : n ≤ 1000 := by decide) : l.length ≤ sizeLine := by
  rw [h]
  exact Nat.le_trans hn (by decide)
theorem pureL_iff : ∀ {ds : List D}, pureL ds = true ↔ ∀ d ∈ ds, pureD d = true
  | [] => by simp [pureL]
  | d :: ds => by
    rw [pureL_cons, Bool.and_eq_true, pureL_iff (ds := ds)]
    simp
theorem plainL_cons (d : D) (ds : List D) : PyData.plainAll (d :: ds) = (d.plain && PyData.plainAll ds) := by rw [PyData.plainAll]
theorem plainL_iff : ∀ {ds : List D}, PyData.plainAll ds = true ↔ ∀ d ∈ ds, d.plain = true
  | [] => by simp [PyData.plainAll]
  | d :: ds => by
    rw [plainL_cons, Bool.and_eq_true, plainL_iff (ds := ds)]
    simp
theorem pureL_append {a b : List D} : pureL (a ++ b) = (pureL a && pureL b) := by
  induction a with
  | nil => simp [pureL]
  | cons x xs ih => rw [List.cons_append, pureL_cons, pureL_cons, ih, Bool.and_assoc]

section
variable {K : PySem.W.Frag} {H H' : Hp}
mutual
theorem Dv.dp : ∀ {v : V} {d : D}, d.plain = true → Dv K H v d → Dp K H v d
  | _, _, _, .non => .non
  | _, _, _, .bl b => .bl b
  | _, _, _, .int i => .int i
  | _, _, _, .str x => .str x
  | _, _, n, .lst h t => .lst h (DvAll.dp (by simpa [PyData.plain] using n) t)
  | _, _, n, .tup h t => .tup h (DvAll.dp (by simpa [PyData.plain] using n) t)
  | _, _, n, .dct h => by simp [PyData.plain] at n
theorem DvAll.dp : ∀ {vs : List V} {ds : List D}, PyData.plainAll ds = true → DvAll K H vs ds → DpAll K H vs ds
  | _, _, _, .nil => .nil
  | _, _, n, .cons h t => by
    rw [plainL_cons, Bool.and_eq_true] at n
    exact .cons (Dv.dp n.1 h) (DvAll.dp n.2 t)
end
/-- tuples are kept -/
def TKeep (H H' : Hp) : Prop := ∀ a, (∀ xs, H a = some (.tup xs) → H' a = some (.tup xs)) ∧ ∀ o xs, H a = some (.frz o (.tup xs)) → H' a = some (.frz o (.tup xs))
theorem TKeep.sq {a : Addr} {xs : List V} (k : TKeep H H') (h : SqT K H a xs) : SqT K H' a xs := by
  rcases h with (h | ⟨o, h⟩) | h
  · exact .inl (.inl ((k a).1 xs h))
  · exact .inl (.inr ⟨o, (k a).2 o xs h⟩)
  · exact .inr h
mutual
/-- a datum without lists stands wherever the tuples are kept -/
theorem Dv.keep (k : TKeep H H') : ∀ {v : V} {d : D}, pureD d = true → Dv K H v d → Dv K H' v d
  | _, _, _, .non => .non
  | _, _, _, .bl b => .bl b
  | _, _, _, .int i => .int i
  | _, _, _, .str x => .str x
  | _, _, n, .lst h t => by simp [pureD] at n
  | _, _, n, .tup h t => .tup (k.sq h) (DvAll.keep k (by simpa [pureD] using n) t)
  | _, _, n, .dct h => by simp [pureD] at n
theorem DvAll.keep (k : TKeep H H') : ∀ {vs : List V} {ds : List D}, pureL ds = true → DvAll K H vs ds → DvAll K H' vs ds
  | _, _, _, .nil => .nil
  | _, _, n, .cons h t => by
    rw [pureL_cons, Bool.and_eq_true] at n
    exact .cons (Dv.keep k n.1 h) (DvAll.keep k n.2 t)
end
mutual
theorem pure_plain : ∀ (d : D), pureD d = true → d.plain = true
  | .none, _ => rfl
  | .bool _, _ => rfl
  | .int _, _ => rfl
  | .str _, _ => rfl
  | .list _, h => by simp [pureD] at h
  | .dict _, h => by simp [pureD] at h
  | .tuple xs, h => by
    simp only [pureD] at h
    simp only [PyData.plain]
    exact pure_plainL xs h
theorem pure_plainL : ∀ (ds : List D), pureL ds = true → PyData.plainAll ds = true
  | [], _ => rfl
  | d :: ds, h => by
    rw [pureL_cons, Bool.and_eq_true] at h
    rw [plainL_cons, pure_plain d h.1, pure_plainL ds h.2]
    rfl
end
end

/-- the places R hold lists, dicts or other things that are no tuples -/
def isTupO : Option HO → Bool
  | some (.tup _) => true
  | some (.frz _ (.tup _)) => true
  | _ => false
def Muts (R : List Addr) (H : Hp) : Prop := ∀ a ∈ R, H a ≠ none ∧ isTupO (H a) = false
theorem Muts.used {R : List Addr} {H : Hp} (m : Muts R H) : Used R H := fun a h => (m a h).1
theorem Muts.mono {R : List Addr} {H H' : Hp} (m : Muts R H) (e : Same H H') : Muts R H' := fun a ha => by
  obtain ⟨m1, m2⟩ := m a ha
  cases q : H a with
  | none => exact (m1 q).elim
  | some o =>
    rw [e a o q, ← q]
    exact ⟨m1, m2⟩
theorem Muts.nil {H : Hp} : Muts [] H := fun _ h => nomatch h
theorem Muts.keep {R : List Addr} {H : Hp} (m : Muts R H) : TKeep H (hide R H) := fun a => by
  by_cases ha : a ∈ R
  · have q := (m a ha).2
    exact ⟨fun xs e => by rw [e] at q; simp [isTupO] at q, fun o xs e => by rw [e] at q; simp [isTupO] at q⟩
  · rw [hide_get ha]
    exact ⟨fun _ e => e, fun _ _ e => e⟩
end CJ

set_option Elab.async false
set_option linter.all false
set_option maxRecDepth 100000
set_option maxHeartbeats 4000000
/-! What a reading yields, told in data: ED, EL, ET, EA, EO, EI, EG; the rules for the constructs. -/
namespace CJ
open PySem L2

/-- the slots that hold data -/
abbrev Rho := List (Option D)
structure Sd (K : PySem.W.Frag) (G : Hp) (σ : L2.St) (ρ : Rho) : Prop where
  len : σ.length = ρ.length
  val : ∀ (i : Nat) (d : D), ρ[i]? = some (some d) → ∃ v, σ[i]? = some (some v) ∧ Dv K G v d
section
variable {K : PySem.W.Frag} {G G' : Hp} {σ : L2.St} {ρ : Rho}
theorem Sd.mono (e : Same G G') (h : Sd K G σ ρ) : Sd K G' σ ρ := ⟨h.len, fun i d q => by
  obtain ⟨v, a, b⟩ := h.val i d q
  exact ⟨v, a, b.mono e⟩⟩
theorem Sd.set {v : V} {d : D} (h : Sd K G σ ρ) (i : Nat) (hv : Dv K G v d) : Sd K G (σ.set i (some v)) (ρ.set i (some d)) := by
  refine ⟨by simp [h.len], fun j e q => ?_⟩
  by_cases hj : i = j
  · subst hj
    by_cases hi : i < ρ.length
    · rw [List.getElem?_set_self hi] at q
      cases q
      exact ⟨v, List.getElem?_set_self (by rw [h.len]; exact hi), hv⟩
    · rw [List.getElem?_eq_none (by simpa using hi)] at q
      cases q
  · rw [List.getElem?_set_ne hj] at q
    obtain ⟨u, a, b⟩ := h.val j e q
    exact ⟨u, by rw [List.getElem?_set_ne hj]; exact a, b⟩
theorem Sd.forget (h : Sd K G σ ρ) (i : Nat) (v : Option V) : Sd K G (σ.set i v) (ρ.set i none) := by
  refine ⟨by simp [h.len], fun j e q => ?_⟩
  by_cases hj : i = j
  · subst hj
    by_cases hi : i < ρ.length
    · rw [List.getElem?_set_self hi] at q
      cases q
    · rw [List.getElem?_eq_none (by simpa using hi)] at q
      cases q
  · rw [List.getElem?_set_ne hj] at q
    obtain ⟨u, a, b⟩ := h.val j e q
    exact ⟨u, by rw [List.getElem?_set_ne hj]; exact a, b⟩
/-- the slots forgotten -/
def wipeR (ρ : Rho) : List Nat → Rho
  | [] => ρ
  | v :: vs => (wipeR ρ vs).set v none
theorem Sd.wipe (h : Sd K G σ ρ) : ∀ vs : List Nat, Sd K G (L2.wipe σ vs) (wipeR ρ vs)
  | [] => h
  | v :: vs => (Sd.wipe h vs).forget v none
end

/-- a reading yields a datum, whatever else the heap holds at hidden places R -/
def ED (K : PySem.W.Frag) (te : TE) (ρ : Rho) (d : D) : Prop := ∀ R σ H, Muts R H → Sd K (hide R H) σ ρ → ∀ Q : VK, (∀ v H', Same H H' → Dv K (hide R H') v d → Q v H') → te σ H Q
/-- .. a new list -/
def EL (K : PySem.W.Frag) (te : TE) (ρ : Rho) (ds : List D) : Prop := ∀ R σ H, Muts R H → Sd K (hide R H) σ ρ → ∀ Q : VK, (∀ p xs H', Same H H' → H p = none → H' p = some (.lst xs) → DvAll K (hide (p :: R) H') xs ds → Q (.ref p) H') → te σ H Q
def ET (K : PySem.W.Frag) (tt : TT) (ρ : Rho) (b : Bool) : Prop := ∀ R σ H, Muts R H → Sd K (hide R H) σ ρ → ∀ Q : Bool → Hp → Prop, (∀ H', Same H H' → Q b H') → tt σ H Q
def EA (K : PySem.W.Frag) (ta : TA) (ρ : Rho) (ds : List D) : Prop := ∀ R σ H, Muts R H → Sd K (hide R H) σ ρ → ∀ Q : List V → Hp → Prop, (∀ vs H', Same H H' → DvAll K (hide R H') vs ds → Q vs H') → ta σ H Q
def EO (K : PySem.W.Frag) (to : TO) (ρ : Rho) (o : Option Int) : Prop := ∀ R σ H, Muts R H → Sd K (hide R H) σ ρ → ∀ Q : Option Int → Hp → Prop, (∀ H', Same H H' → Q o H') → to σ H Q
/-- a walk over data -/
def Walk (K : PySem.W.Frag) (J : It) (G : Hp) (ds : List D) : Prop := ∀ R H, Muts R H → Same G (hide R H) → ∀ i : Nat,
  (∀ d, ds[i]? = some d → J.go i H ∧ ∀ x H', J.yld i H x H' → Same H H' ∧ Dv K (hide R H') x d) ∧ (ds.length ≤ i → J.stop i H)
def EI (K : PySem.W.Frag) (wi : TI) (ρ : Rho) (ds : List D) : Prop := ∀ R σ H, Muts R H → Sd K (hide R H) σ ρ → ∀ Rr : It → Hp → Prop, (∀ J H', Same H H' → Walk K J (hide R H') ds → Rr J H') → wi σ H Rr
/-- a target takes a datum: the slots js are stored -/
def EG (K : PySem.W.Frag) (g : TG) (d : D) (ρ ρ' : Rho) (js : List Nat) : Prop := ∀ R σ H v, Muts R H → Sd K (hide R H) σ ρ → Dv K (hide R H) v d → ∀ Q : L2.St → Hp → Prop,
  (∀ σ', Sd K (hide R H) σ' ρ' → (∀ vs : List Nat, (∀ j ∈ js, j ∈ vs) → L2.wipe σ' vs = L2.wipe σ vs) → (∀ i, i ∉ js → σ'[i]? = σ[i]?) → Q σ' H) → g v σ H Q
def EGs (K : PySem.W.Frag) (g : TGs) (ds : List D) (ρ ρ' : Rho) (js : List Nat) : Prop := ∀ R σ H vs, Muts R H → Sd K (hide R H) σ ρ → DvAll K (hide R H) vs ds → ∀ Q : L2.St → Hp → Prop,
  (∀ σ', Sd K (hide R H) σ' ρ' → (∀ ws : List Nat, (∀ j ∈ js, j ∈ ws) → L2.wipe σ' ws = L2.wipe σ ws) → (∀ i, i ∉ js → σ'[i]? = σ[i]?) → Q σ' H) → g vs σ H Q

section
variable {K : PySem.W.Frag} {G G' H H' : Hp} {σ : L2.St} {ρ ρ' ρ'' : Rho} {ta tb tc te tx : TE} {t u : TT} {d e f : D} {ds es : List D} {r : R2} {js ks : List Nat}

/-! ### names and constants -/
theorem ed_var {i : Nat} (h : ρ[i]? = some (some d)) : ED K (tVar i) ρ d := fun R σ H m s Q q => by
  obtain ⟨v, a, b⟩ := s.val i d h
  exact ⟨v, a, q v H (Same.refl H) b⟩
theorem ed_int {i : Int} : ED K (tC (.int i)) ρ (.int i) := fun R σ H m s Q q => q _ H (Same.refl H) (.int i)
theorem ed_str {x : Str} : ED K (tC (.str x)) ρ (.str x) := fun R σ H m s Q q => q _ H (Same.refl H) (.str x)
theorem ed_bl {b : Bool} : ED K (tC (.bl b)) ρ (.bool b) := fun R σ H m s Q q => q _ H (Same.refl H) (.bl b)
theorem ed_non : ED K (tC .non) ρ .none := fun R σ H m s Q q => q _ H (Same.refl H) .non
theorem ed_is (h : ED K te ρ d) (e : d = f) : ED K te ρ f := e ▸ h
theorem el_is (h : EL K te ρ ds) (e : ds = es) : EL K te ρ es := e ▸ h
theorem et_is {a b : Bool} (h : ET K t ρ a) (e : a = b) : ET K t ρ b := e ▸ h
theorem EL.ed (h : EL K te ρ ds) : ED K te ρ (.list ds) := fun R σ H m s Q q => h R σ H m s Q fun p xs H' e hp hx hd => by
  have np : p ∉ R := m.used.new hp
  refine q _ H' e (.lst (.inl (.inl ?_)) (hd.mono hide_cons_sub))
  rw [hide_get np]
  exact hx

/-! ### a value of one kind -/
theorem Dv.int_inv {v : V} {i : Int} (h : Dv K G v (.int i)) : v = .int i := by cases h; rfl
theorem Dv.str_inv {v : V} {i : Str} (h : Dv K G v (.str i)) : v = .str i := by cases h; rfl
theorem Dv.bool_inv {v : V} {i : Bool} (h : Dv K G v (.bool i)) : v = .bl i := by cases h; rfl
theorem Dv.none_inv {v : V} (h : Dv K G v .none) : v = .non := by cases h; rfl
theorem Dv.list_inv {v : V} {ds : List D} (h : Dv K G v (.list ds)) : ∃ a xs, v = .ref a ∧ SqL K G a xs ∧ DvAll K G xs ds := by
  cases h with
  | lst a b => exact ⟨_, _, rfl, a, b⟩
theorem Dv.tup_inv {v : V} {ds : List D} (h : Dv K G v (.tuple ds)) : ∃ a xs, v = .ref a ∧ SqT K G a xs ∧ DvAll K G xs ds := by
  cases h with
  | tup a b => exact ⟨_, _, rfl, a, b⟩
theorem Dv.up {R : List Addr} {v : V} (h : Dv K (hide R H) v d) : Dv K H v d := h.mono hide_sub
theorem Rd.up {R : List Addr} {a : Addr} {u : HO} (h : Rd (hide R H) a u) : Rd H a u := Same.rd hide_sub h
theorem SqL.up {R : List Addr} {a : Addr} {xs : List V} (h : SqL K (hide R H) a xs) : SqL K H a xs := Same.seq hide_sub h
theorem Rd.sq {a : Addr} {xs : List V} (h : Rd H a (.lst xs)) : SqL K H a xs := .inl h
theorem SqT.up {R : List Addr} {a : Addr} {xs : List V} (h : SqT K (hide R H) a xs) : SqT K H a xs := Same.sqT hide_sub h
theorem Sd.up {R : List Addr} (h : Sd K (hide R H) σ ρ) : Sd K H σ ρ := h.mono hide_sub
theorem Sd.step {R : List Addr} (h : Sd K (hide R H) σ ρ) (e : Same H H') : Sd K (hide R H') σ ρ := h.mono (hide_mono e)

/-! ### operations -/
/-- two operands, then a rule by data -/
def RD (K : PySem.W.Frag) (r : R2) (d e f : D) : Prop := ∀ R H x y, Muts R H → Dv K (hide R H) x d → Dv K (hide R H) y e → ∀ Q : VK, (∀ v H', Same H H' → Dv K (hide R H') v f → Q v H') → r x y H Q
theorem ed_op (ha : ED K ta ρ d) (hb : ED K tb ρ e) (hr : RD K r d e f) : ED K (tOp r ta tb) ρ f := fun R σ H m s Q q =>
  ha R σ H m s _ fun x H1 e1 d1 => hb R σ H1 (m.mono e1) (s.step e1) _ fun y H2 e2 d2 =>
    hr R H2 x y ((m.mono e1).mono e2) (d1.mono (hide_mono e2)) d2 Q fun v H3 e3 d3 => q v H3 ((e1.trans e2).trans e3) d3
def RLd (K : PySem.W.Frag) (r : R2) (d e : D) (fs : List D) : Prop := ∀ R H x y, Muts R H → Dv K (hide R H) x d → Dv K (hide R H) y e → ∀ Q : VK, (∀ p xs H', Same H H' → H p = none → H' p = some (.lst xs) → DvAll K (hide (p :: R) H') xs fs → Q (.ref p) H') → r x y H Q
theorem el_op {fs : List D} (ha : ED K ta ρ d) (hb : ED K tb ρ e) (hr : RLd K r d e fs) : EL K (tOp r ta tb) ρ fs := fun R σ H m s Q q =>
  ha R σ H m s _ fun x H1 e1 d1 => hb R σ H1 (m.mono e1) (s.step e1) _ fun y H2 e2 d2 =>
    hr R H2 x y ((m.mono e1).mono e2) (d1.mono (hide_mono e2)) d2 Q fun p xs H3 e3 hp hx d3 => q p xs H3 ((e1.trans e2).trans e3) (Same.none (e1.trans e2) hp) hx d3
theorem rd_I0 {g : Int → Int → V} {i j : Int} (hg : ∀ G, Dv K G (g i j) f) : RD K (rI0 g) (.int i) (.int j) f := fun R H x y m hx hy Q q => by
  cases hx.int_inv
  cases hy.int_inv
  exact ⟨i, j, rfl, rfl, q _ H (Same.refl H) (hg _)⟩
theorem rd_I {C : Int → Int → Prop} {g : Int → Int → V} {i j : Int} (hg : ∀ G, Dv K G (g i j) f) (hc : C i j) : RD K (rI C g) (.int i) (.int j) f := fun R H x y m hx hy Q q => by
  cases hx.int_inv
  cases hy.int_inv
  exact ⟨i, j, rfl, rfl, hc, q _ H (Same.refl H) (hg _)⟩
theorem rd_add {i j : Int} : RD K (rI0 fun i j => .int (i + j)) (.int i) (.int j) (.int (i + j)) := rd_I0 fun _ => .int _
theorem rd_sub {i j : Int} : RD K (rI0 fun i j => .int (i - j)) (.int i) (.int j) (.int (i - j)) := rd_I0 fun _ => .int _
theorem rd_lt {i j : Int} : RD K (rI0 fun i j => .bl (decide (i < j))) (.int i) (.int j) (.bool (decide (i < j))) := rd_I0 fun _ => .bl _
theorem rd_le {i j : Int} : RD K (rI0 fun i j => .bl (decide (i ≤ j))) (.int i) (.int j) (.bool (decide (i ≤ j))) := rd_I0 fun _ => .bl _
theorem rd_gt {i j : Int} : RD K (rI0 fun i j => .bl (decide (j < i))) (.int i) (.int j) (.bool (decide (j < i))) := rd_I0 fun _ => .bl _
theorem rd_ge {i j : Int} : RD K (rI0 fun i j => .bl (decide (j ≤ i))) (.int i) (.int j) (.bool (decide (j ≤ i))) := rd_I0 fun _ => .bl _
theorem rd_mul {i j : Int} (h : CMul i j) : RD K (rI CMul fun i j => .int (i * j)) (.int i) (.int j) (.int (i * j)) := rd_I (fun _ => .int _) h
theorem rd_mod {i j : Int} (h : 0 < j) : RD K (rI (fun _ j => 0 < j) fun i j => .int (i % j)) (.int i) (.int j) (.int (i % j)) := rd_I (fun _ => .int _) h
theorem rd_fdiv {i j : Int} (h : CDiv i j) : RD K (rI CDiv fun i j => .int (i / j)) (.int i) (.int j) (.int (i / j)) := rd_I (fun _ => .int _) h
theorem rd_addS {x y : Str} (h : x.length + y.length ≤ sizeLine) : RD K (fun x y H Q => ∃ i j, x = .str i ∧ y = .str j ∧ i.length + j.length ≤ sizeLine ∧ Q (.str (i ++ j)) H) (.str x) (.str y) (.str (x ++ y)) := fun R H v u m hx hy Q q => by
  cases hx.str_inv
  cases hy.str_inv
  exact ⟨x, y, rfl, rfl, h, q _ H (Same.refl H) (.str _)⟩
theorem rd_inSign {c : Nat} {z : Str} : RD K (fun x y H Q => ∃ (c : Nat) (z : Str), x = .str ⟨#[c]⟩ ∧ y = .str z ∧ Q (.bl (decide (c ∈ z.cps.toList))) H) (.str ⟨#[c]⟩) (.str z) (.bool (decide (c ∈ z.cps.toList))) := fun R H v u m hx hy Q q => by
  cases hx.str_inv
  cases hy.str_inv
  exact ⟨c, z, rfl, rfl, q _ H (Same.refl H) (.bl _)⟩
theorem rd_isN : RD K (fun x y H Q => y = .non ∧ Q (.bl (decide (x = .non))) H) .none .none (.bool true) := fun R H x y m hx hy Q q => by
  cases hx.none_inv
  cases hy.none_inv
  exact ⟨rfl, q _ H (Same.refl H) (.bl _)⟩
theorem Dv.nonN {v : V} (h : Dv K G v d) (hd : d ≠ .none) : v ≠ .non := by
  intro e
  subst e
  cases h
  exact hd rfl

/-! ### items, slices, sums -/
theorem atI_dv {vs : List V} {i : Int} (h : DvAll K G vs ds) (e : atI ds i = some d) : ∃ v, atI vs i = some v ∧ Dv K G v d := by
  unfold atI at e ⊢
  rw [h.length]
  cases q : ixN ds.length i with
  | none => rw [q] at e; cases e
  | some j =>
    rw [q] at e
    exact DvAll.get h e
theorem rd_ixL {i : Int} (h : atI ds i = some d) : RD K (rIxL K) (.list ds) (.int i) d := fun R H x y m hx hy Q q => by
  obtain ⟨a, xs, rfl, hs, hd⟩ := hx.list_inv
  cases hy.int_inv
  obtain ⟨v, hv, dv⟩ := atI_dv hd h
  exact ⟨a, xs, i, v, rfl, rfl, SqL.up hs, hv, q v H (Same.refl H) dv⟩
theorem rd_ixT {i : Int} (h : atI ds i = some d) : RD K (rIxT K) (.tuple ds) (.int i) d := fun R H x y m hx hy Q q => by
  obtain ⟨a, xs, rfl, hs, hd⟩ := hx.tup_inv
  cases hy.int_inv
  obtain ⟨v, hv, dv⟩ := atI_dv hd h
  exact ⟨a, xs, i, v, rfl, rfl, SqT.up hs, hv, q v H (Same.refl H) dv⟩
theorem rd_ixS {z : Str} {i : Int} {c : Nat} (hz : z.length ≤ sizeLine) (h : atI z.cps.toList i = some c) : RD K rIxS (.str z) (.int i) (.str ⟨#[c]⟩) := fun R H x y m hx hy Q q => by
  cases hx.str_inv
  cases hy.int_inv
  exact ⟨z, i, c, rfl, rfl, hz, h, q _ H (Same.refl H) (.str _)⟩
/-- the slice of a row of data -/
def cutD {α : Type} (ds : List α) (lo hi : Option Int) : List α := (ds.drop (HT.sIx ds.length 0 lo)).take (HT.sIx ds.length ds.length hi - HT.sIx ds.length 0 lo)
theorem cutD_map {α β : Type} (f : α → β) (ds : List α) (lo hi : Option Int) : cutD (ds.map f) lo hi = (cutD ds lo hi).map f := by
  unfold cutD
  rw [List.length_map, List.map_take, List.map_drop]
theorem cutD_all {α : Type} (ds : List α) (lo hi : Option Int) (h : HT.sIx ds.length 0 lo = 0 ∧ HT.sIx ds.length ds.length hi = ds.length) : cutD ds lo hi = ds := by
  unfold cutD
  rw [h.1, h.2]
  simp
theorem cutV_dv {vs : List V} (h : DvAll K G vs ds) (lo hi : Option Int) : DvAll K G (cutV vs lo hi) (cutD ds lo hi) := by
  unfold cutV cutD
  rw [h.length]
  exact (h.drop _).take _
/-- what a slice by values is, in data -/
def RS (K : PySem.W.Frag) (r : V → Option Int → Option Int → Hp → VK → Prop) (d : D) (lo hi : Option Int) (f : D) : Prop := ∀ R H x, Muts R H → Dv K (hide R H) x d → ∀ Q : VK, (∀ v H', Same H H' → Dv K (hide R H') v f → Q v H') → r x lo hi H Q
theorem eo_none : EO K tNoPart ρ none := fun R σ H m s Q q => q H (Same.refl H)
theorem eo_some {i : Int} (h : ED K te ρ (.int i)) : EO K (tPart te) ρ (some i) := fun R σ H m s Q q => h R σ H m s _ fun v H1 e1 d1 => by
  cases d1.int_inv
  exact ⟨i, rfl, q H1 e1⟩
theorem ed_sl {r : V → Option Int → Option Int → Hp → VK → Prop} {tl th : TO} {lo hi : Option Int} (h : ED K te ρ d) (hl : EO K tl ρ lo) (hh : EO K th ρ hi) (hr : RS K r d lo hi f) : ED K (tSl r te tl th) ρ f := fun R σ H m s Q q =>
  h R σ H m s _ fun x H1 e1 d1 => hl R σ H1 (m.mono e1) (s.step e1) _ fun H2 e2 => hh R σ H2 ((m.mono e1).mono e2) ((s.step e1).step e2) _ fun H3 e3 =>
    hr R H3 x (((m.mono e1).mono e2).mono e3) (d1.mono (hide_mono (e2.trans e3))) Q fun v H4 e4 d4 => q v H4 (((e1.trans e2).trans e3).trans e4) d4
theorem rs_str {z : Str} {lo hi : Option Int} (hz : z.length ≤ sizeLine) : RS K rSlS (.str z) lo hi (.str (cutS z lo hi)) := fun R H x m hx Q q => by
  cases hx.str_inv
  exact ⟨z, rfl, hz, q _ H (Same.refl H) (.str _)⟩
theorem rs_tup {lo hi : Option Int} : RS K (rSlA K) (.tuple ds) lo hi (.tuple (cutD ds lo hi)) := fun R H x m hx Q q => by
  obtain ⟨a, xs, rfl, hs, hd⟩ := hx.tup_inv
  refine ⟨a, xs, rfl, SqT.up hs, fun h => ?_, fun h p hp => ?_⟩
  · rw [hd.length] at h
    rw [cutD_all ds lo hi h] at q
    exact q _ H (Same.refl H) hx
  · have np : p ∉ R := m.used.new hp
    refine q _ _ (Same.upd_new hp) ?_
    rw [hide_upd_ne np]
    exact .tup (SqT.of upd_same) ((cutV_dv hd lo hi).mono (Same.upd_new (by rw [hide_get np]; exact hp)))
theorem el_sl {tl th : TO} {lo hi : Option Int} (h : ED K te ρ (.list ds)) (hl : EO K tl ρ lo) (hh : EO K th ρ hi) : EL K (tSl (rSlL K) te tl th) ρ (cutD ds lo hi) := fun R σ H m s Q q =>
  h R σ H m s _ fun x H1 e1 d1 => hl R σ H1 (m.mono e1) (s.step e1) _ fun H2 e2 => hh R σ H2 ((m.mono e1).mono e2) ((s.step e1).step e2) _ fun H3 e3 => by
    obtain ⟨a, xs, rfl, hs, hd⟩ := (d1.mono (hide_mono (e2.trans e3))).list_inv
    refine ⟨a, xs, rfl, SqL.up hs, fun p hp => ?_⟩
    have e4 := (e1.trans e2).trans e3
    have np : p ∉ R := (m.mono e4).used.new hp
    refine q p _ _ (e4.trans (Same.upd_new hp)) (Same.none e4 hp) upd_same ?_
    rw [hide_upd (List.mem_cons_self)]
    refine (cutV_dv hd lo hi).mono ?_
    intro b o eb
    have nb : b ≠ p := fun z => by
      rw [z, hide_get np, hp] at eb
      cases eb
    unfold hide at eb ⊢
    split at eb
    · cases eb
    · rename_i hb
      rw [if_neg (fun z => (List.mem_cons.mp z).elim nb hb)]
      exact eb
/-- a fresh thing laid at p: what was frozen is frozen -/
theorem frozen_new {R : List Addr} {p : Addr} (hp : H p = none) : Same (hide R H) (hide (p :: R) H) := fun b o eb => by
  have nb : b ≠ p := fun z => by
    have q := hide_sub b o eb
    rw [z, hp] at q
    cases q
  unfold hide at eb ⊢
  split at eb
  · cases eb
  · rename_i hb
    rw [if_neg (fun z => (List.mem_cons.mp z).elim nb hb)]
    exact eb
theorem frozen_upd {R : List Addr} {p : Addr} {o : HO} (hp : H p = none) : Same (hide R H) (hide (p :: R) (upd H p o)) := by
  rw [hide_upd (List.mem_cons_self)]
  exact frozen_new hp
/-! ### displays -/
theorem ea_nil : EA K tNil ρ [] := fun R σ H m s Q q => q [] H (Same.refl H) .nil
theorem ea_cons {tr : TA} (h : ED K te ρ d) (hr : EA K tr ρ ds) : EA K (tCons te tr) ρ (d :: ds) := fun R σ H m s Q q =>
  h R σ H m s _ fun x H1 e1 d1 => hr R σ H1 (m.mono e1) (s.step e1) _ fun xs H2 e2 d2 => q _ H2 (e1.trans e2) (.cons (d1.mono (hide_mono e2)) d2)
theorem ed_tup {t : TA} (h : EA K t ρ ds) (hz : ds.length ≤ sizeLine) : ED K (tTup t) ρ (.tuple ds) := fun R σ H m s Q q =>
  h R σ H m s _ fun xs H1 e1 d1 => ⟨by rw [d1.length]; exact hz, fun p hp => by
    have np : p ∉ R := (m.mono e1).used.new hp
    refine q _ _ (e1.trans (Same.upd_new hp)) ?_
    rw [hide_upd_ne np]
    exact .tup (SqT.of upd_same) (d1.mono (Same.upd_new (by rw [hide_get np]; exact hp)))⟩
theorem el_lst {t : TA} (h : EA K t ρ ds) (hz : ds.length ≤ sizeLine) : EL K (tLst t) ρ ds := fun R σ H m s Q q =>
  h R σ H m s _ fun xs H1 e1 d1 => ⟨by rw [d1.length]; exact hz, fun p hp => by
    refine q p xs _ (e1.trans (Same.upd_new hp)) (Same.none e1 hp) upd_same ?_
    exact d1.mono (frozen_upd hp)⟩

/-! ### tests -/
theorem et_test {b : Bool} (h : ED K te ρ (.bool b)) : ET K (tTest te) ρ b := fun R σ H m s Q q => h R σ H m s _ fun v H1 e1 d1 => by
  cases d1.bool_inv
  exact ⟨b, rfl, q H1 e1⟩
theorem et_B {b : Bool} (h : ED K te ρ (.bool b)) : ET K (tB te) ρ b := fun R σ H m s Q q => h R σ H m s _ fun v H1 e1 d1 => by
  cases d1.bool_inv
  exact ⟨b, rfl, q H1 e1⟩
theorem et_and {a b : Bool} (h1 : ET K t ρ a) (h2 : a = true → ET K u ρ b) : ET K (tAnd t u) ρ (a && b) := fun R σ H m s Q q => h1 R σ H m s _ fun H1 e1 => by
  cases a with
  | true => exact h2 rfl R σ H1 (m.mono e1) (s.step e1) Q fun H2 e2 => q H2 (e1.trans e2)
  | false => exact q H1 e1
theorem et_or {a b : Bool} (h1 : ET K t ρ a) (h2 : a = false → ET K u ρ b) : ET K (tOr t u) ρ (a || b) := fun R σ H m s Q q => h1 R σ H m s _ fun H1 e1 => by
  cases a with
  | false => exact h2 rfl R σ H1 (m.mono e1) (s.step e1) Q fun H2 e2 => q H2 (e1.trans e2)
  | true => exact q H1 e1
theorem et_not {a : Bool} (h1 : ET K t ρ a) : ET K (tNot t) ρ (!a) := fun R σ H m s Q q => h1 R σ H m s _ fun H1 e1 => q H1 e1
theorem ed_and {a b : Bool} (h1 : ED K ta ρ (.bool a)) (h2 : a = true → ED K tb ρ (.bool b)) : ED K (tAndV ta tb) ρ (.bool (a && b)) := fun R σ H m s Q q => h1 R σ H m s _ fun v H1 e1 d1 => by
  cases d1.bool_inv
  refine ⟨a, rfl, ?_⟩
  cases a with
  | true => exact h2 rfl R σ H1 (m.mono e1) (s.step e1) Q fun v H2 e2 d2 => q v H2 (e1.trans e2) d2
  | false => exact q _ H1 e1 (.bl _)
theorem ed_or {a b : Bool} (h1 : ED K ta ρ (.bool a)) (h2 : a = false → ED K tb ρ (.bool b)) : ED K (tOrV ta tb) ρ (.bool (a || b)) := fun R σ H m s Q q => h1 R σ H m s _ fun v H1 e1 d1 => by
  cases d1.bool_inv
  refine ⟨a, rfl, ?_⟩
  cases a with
  | false => exact h2 rfl R σ H1 (m.mono e1) (s.step e1) Q fun v H2 e2 d2 => q v H2 (e1.trans e2) d2
  | true => exact q _ H1 e1 (.bl _)
theorem ed_not {a : Bool} (h1 : ED K ta ρ (.bool a)) : ED K (tNotV ta) ρ (.bool (!a)) := fun R σ H m s Q q => h1 R σ H m s _ fun v H1 e1 d1 => by
  cases d1.bool_inv
  exact ⟨a, rfl, q _ H1 e1 (.bl _)⟩
theorem ed_if {b : Bool} (h : ET K t ρ b) (h1 : b = true → ED K ta ρ d) (h2 : b = false → ED K tb ρ d) : ED K (tIf t ta tb) ρ d := fun R σ H m s Q q => h R σ H m s _ fun H1 e1 => by
  cases b with
  | true => exact h1 rfl R σ H1 (m.mono e1) (s.step e1) Q fun v H2 e2 d2 => q v H2 (e1.trans e2) d2
  | false => exact h2 rfl R σ H1 (m.mono e1) (s.step e1) Q fun v H2 e2 d2 => q v H2 (e1.trans e2) d2
theorem el_if {b : Bool} (h : ET K t ρ b) (h1 : b = true → EL K ta ρ ds) (h2 : b = false → EL K tb ρ ds) : EL K (tIf t ta tb) ρ ds := fun R σ H m s Q q => h R σ H m s _ fun H1 e1 => by
  cases b with
  | true => exact h1 rfl R σ H1 (m.mono e1) (s.step e1) Q fun p xs H2 e2 hp hx d2 => q p xs H2 (e1.trans e2) (Same.none e1 hp) hx d2
  | false => exact h2 rfl R σ H1 (m.mono e1) (s.step e1) Q fun p xs H2 e2 hp hx d2 => q p xs H2 (e1.trans e2) (Same.none e1 hp) hx d2
/-- a < b < c with bools between -/
theorem ed_chain {r' : R2} {a b : Bool} (ha : ED K ta ρ d) (hb : ED K tb ρ e) (hr : RD K r d e (.bool a)) (hc : a = true → ED K tc ρ f) (hr' : a = true → RD K r' e f (.bool b)) : ED K (tChain r r' ta tb tc) ρ (.bool (a && b)) := fun R σ H m s Q q =>
  ha R σ H m s _ fun x H1 e1 d1 => hb R σ H1 (m.mono e1) (s.step e1) _ fun y H2 e2 d2 =>
    hr R H2 x y ((m.mono e1).mono e2) (d1.mono (hide_mono e2)) d2 _ fun v H3 e3 d3 => by
      cases d3.bool_inv
      refine ⟨a, rfl, ?_⟩
      have m3 := ((m.mono e1).mono e2).mono e3
      cases a with
      | true => exact hc rfl R σ H3 m3 (((s.step e1).step e2).step e3) _ fun z H4 e4 d4 => hr' rfl R H4 y z (m3.mono e4) (d2.mono (hide_mono (e3.trans e4))) d4 Q fun w H5 e5 d5 => q w H5 ((((e1.trans e2).trans e3).trans e4).trans e5) d5
      | false => exact q _ H3 ((e1.trans e2).trans e3) (.bl _)
/-- truth of a value -/
theorem et_truthL (h : ED K te ρ (.list ds)) : ET K (fun σ H Q => te σ H fun x H' => ∃ k, TruV K x H' k ∧ Q k H') ρ (!ds.isEmpty) := fun R σ H m s Q q => h R σ H m s _ fun v H1 e1 d1 => by
  obtain ⟨a, xs, rfl, hs, hd⟩ := d1.list_inv
  refine ⟨!xs.isEmpty, .inl ⟨xs, SqL.up hs, rfl⟩, ?_⟩
  have e : xs.isEmpty = ds.isEmpty := by
    have := hd.length
    cases xs <;> cases ds <;> simp at this ⊢
  rw [e]
  exact q H1 e1
end
end CJ

set_option Elab.async false
set_option linter.all false
set_option maxRecDepth 100000
set_option maxHeartbeats 4000000
/-! Walks, targets, comprehensions, in data. -/
namespace CJ
open PySem L2
section
variable {K : PySem.W.Frag} {G G' H H' : Hp} {σ : L2.St} {ρ ρ' ρ'' : Rho} {ta tb tc te tx tl : TE} {t u : TT} {d e f : D} {ds es : List D} {js ks : List Nat} {a b : Addr} {xs ys : List V}

theorem Walk.mono {J : It} (w : Walk K J G ds) (e : Same G G') : Walk K J G' ds := fun R H m s => w R H m (e.trans s)
theorem walk_list (hx : SqL K G a xs) (hd : DvAll K G xs ds) : Walk K (Itl K a) G ds := fun R H m s i => by
  have hs : SqL K H a xs := SqL.up (Same.seq s hx)
  refine ⟨fun d hi => ?_, fun hi => ⟨xs, hs, by rw [hd.length]; exact hi⟩⟩
  obtain ⟨v, hv, dv⟩ := hd.get hi
  refine ⟨⟨xs, v, hs, hv⟩, fun x H' y => ?_⟩
  obtain ⟨rfl, y⟩ := y
  have := y xs hs
  rw [hv] at this
  cases this
  exact ⟨Same.refl _, dv.mono s⟩
theorem walk_tup (hx : SqT K G a xs) (hd : DvAll K G xs ds) : Walk K (Itt K a) G ds := fun R H m s i => by
  have hs : SqT K H a xs := SqT.up (Same.sqT s hx)
  refine ⟨fun d hi => ?_, fun hi => ⟨xs, hs, by rw [hd.length]; exact hi⟩⟩
  obtain ⟨v, hv, dv⟩ := hd.get hi
  refine ⟨⟨xs, v, hs, hv⟩, fun x H' y => ?_⟩
  obtain ⟨rfl, y⟩ := y
  have := y xs hs
  rw [hv] at this
  cases this
  exact ⟨Same.refl _, dv.mono s⟩
theorem walk_range {lo : Int} {n : Nat} : Walk K (Itr lo n) G ((List.range n).map fun i => .int (lo + (i : Nat))) := fun R H m s i => by
  refine ⟨fun d hi => ?_, fun hi => (by simpa using hi : n ≤ i)⟩
  rw [List.getElem?_map] at hi
  by_cases hn : i < n
  · rw [List.getElem?_range hn] at hi
    cases hi
    refine ⟨hn, fun x H' y => ?_⟩
    obtain ⟨rfl, rfl⟩ := y
    exact ⟨Same.refl _, .int _⟩
  · rw [List.getElem?_eq_none (by simpa using hn)] at hi
    cases hi
theorem walk_str {z : Str} : Walk K (Its z) G (z.cps.toList.map fun c => .str ⟨#[c]⟩) := fun R H m s i => by
  refine ⟨fun d hi => ?_, fun hi => (by simpa using hi : z.cps.size ≤ i)⟩
  rw [List.getElem?_map] at hi
  cases q : z.cps.toList[i]? with
  | none =>
    rw [q] at hi
    cases hi
  | some c =>
    rw [q] at hi
    cases hi
    have q' : z.cps[i]? = some c := by rw [← Array.getElem?_toList]; exact q
    have hl : i < z.cps.size := (Array.getElem?_eq_some_iff.mp q').1
    refine ⟨hl, fun x H' y => ?_⟩
    obtain ⟨rfl, c', hc, rfl⟩ := y
    rw [q'] at hc
    cases hc
    exact ⟨Same.refl _, .str _⟩
theorem rev_get {α : Type} {l : List α} {i : Nat} (h : i < l.length) : l.reverse[i]? = l[l.length - 1 - i]? := List.getElem?_reverse h
theorem walk_revL (hx : SqL K G a xs) (hd : DvAll K G xs ds) : Walk K (Itv K a xs.length) G ds.reverse := fun R H m s i => by
  have hs : SqL K H a xs := SqL.up (Same.seq s hx)
  refine ⟨fun d hi => ?_, fun hi => by
    have : xs.length ≤ i := by rw [hd.length]; simpa using hi
    exact this⟩
  have hl : i < ds.length := by
    have := (List.getElem?_eq_some_iff.mp hi).1
    simpa using this
  rw [rev_get hl] at hi
  obtain ⟨v, hv, dv⟩ := hd.get hi
  rw [← hd.length] at hv
  refine ⟨⟨by rw [hd.length]; exact hl, xs, v, hs, hv⟩, fun x H' y => ?_⟩
  obtain ⟨rfl, y⟩ := y
  have := y xs hs
  rw [hv] at this
  cases this
  exact ⟨Same.refl _, dv.mono s⟩
theorem walk_revT (hx : SqT K G a xs) (hd : DvAll K G xs ds) : Walk K (RT.ItvT K a xs.length) G ds.reverse := fun R H m s i => by
  have hs : SqT K H a xs := SqT.up (Same.sqT s hx)
  refine ⟨fun d hi => ?_, fun hi => by
    have : xs.length ≤ i := by rw [hd.length]; simpa using hi
    exact this⟩
  have hl : i < ds.length := by
    have := (List.getElem?_eq_some_iff.mp hi).1
    simpa using this
  rw [rev_get hl] at hi
  obtain ⟨v, hv, dv⟩ := hd.get hi
  rw [← hd.length] at hv
  refine ⟨⟨by rw [hd.length]; exact hl, xs, v, hs, hv⟩, fun x H' y => ?_⟩
  obtain ⟨rfl, y⟩ := y
  have := y xs hs
  rw [hv] at this
  cases this
  exact ⟨Same.refl _, dv.mono s⟩
def enumD (ds : List D) : List D := ds.mapIdx fun i d => .tuple [.int (i : Nat), d]
theorem walk_enum (hx : SqL K G a xs) (hd : DvAll K G xs ds) : Walk K (Ite K a) G (enumD ds) := fun R H m s i => by
  have hs : SqL K H a xs := SqL.up (Same.seq s hx)
  refine ⟨fun d hi => ?_, fun hi => ⟨xs, hs, by rw [hd.length]; simpa [enumD] using hi⟩⟩
  unfold enumD at hi
  rw [List.getElem?_mapIdx] at hi
  cases q : ds[i]? with
  | none =>
    rw [q] at hi
    cases hi
  | some d0 =>
    rw [q] at hi
    cases hi
    obtain ⟨v, hv, dv⟩ := hd.get q
    refine ⟨⟨xs, v, hs, hv⟩, fun x H' y => ?_⟩
    obtain ⟨T, x', rfl, hT, rfl, y⟩ := y
    have := y xs hs
    rw [hv] at this
    cases this
    have nT : T ∉ R := m.used.new hT
    refine ⟨Same.upd_new hT, ?_⟩
    rw [hide_upd_ne nT]
    exact .tup (SqT.of upd_same) (.cons (.int _) (.cons ((dv.mono s).mono (Same.upd_new (by rw [hide_get nT]; exact hT))) .nil))
def zipD (ds es : List D) : List D := List.zipWith (fun d e => .tuple [d, e]) ds es
theorem walk_zip (hx : SqL K G a xs) (hd : DvAll K G xs ds) (hy : SqL K G b ys) (he : DvAll K G ys es) : Walk K (Itz K a b) G (zipD ds es) := fun R H m s i => by
  have hs : SqL K H a xs := SqL.up (Same.seq s hx)
  have ht : SqL K H b ys := SqL.up (Same.seq s hy)
  refine ⟨fun d hi => ?_, fun hi => ⟨xs, ys, hs, ht, by
    rw [hd.length, he.length]
    simp only [zipD, List.length_zipWith] at hi
    omega⟩⟩
  unfold zipD at hi
  rw [List.getElem?_zipWith] at hi
  cases q : ds[i]? with
  | none => rw [q] at hi; cases hi
  | some d0 =>
    cases q2 : es[i]? with
    | none => rw [q, q2] at hi; cases hi
    | some e0 =>
      rw [q, q2] at hi
      cases hi
      obtain ⟨v, hv, dv⟩ := hd.get q
      obtain ⟨w, hw, dw⟩ := he.get q2
      refine ⟨⟨xs, ys, v, w, hs, ht, hv, hw⟩, fun x H' y => ?_⟩
      obtain ⟨T, x', y', rfl, hT, rfl, y1, y2⟩ := y
      have z1 := y1 xs hs
      rw [hv] at z1
      cases z1
      have z2 := y2 ys ht
      rw [hw] at z2
      cases z2
      have nT : T ∉ R := m.used.new hT
      refine ⟨Same.upd_new hT, ?_⟩
      rw [hide_upd_ne nT]
      have k : Same (hide R H) (upd (hide R H) T (.tup [v, w])) := Same.upd_new (by rw [hide_get nT]; exact hT)
      exact .tup (SqT.of upd_same) (.cons ((dv.mono s).mono k) (.cons ((dw.mono s).mono k) .nil))
theorem walk_zipT (hx : SqT K G a xs) (hd : DvAll K G xs ds) (hy : SqT K G b ys) (he : DvAll K G ys es) : Walk K (RZ.ItzT K a b) G (zipD ds es) := fun R H m s i => by
  have hs : SqT K H a xs := SqT.up (Same.sqT s hx)
  have ht : SqT K H b ys := SqT.up (Same.sqT s hy)
  refine ⟨fun d hi => ?_, fun hi => ⟨xs, ys, hs, ht, by
    rw [hd.length, he.length]
    simp only [zipD, List.length_zipWith] at hi
    omega⟩⟩
  unfold zipD at hi
  rw [List.getElem?_zipWith] at hi
  cases q : ds[i]? with
  | none => rw [q] at hi; cases hi
  | some d0 =>
    cases q2 : es[i]? with
    | none => rw [q, q2] at hi; cases hi
    | some e0 =>
      rw [q, q2] at hi
      cases hi
      obtain ⟨v, hv, dv⟩ := hd.get q
      obtain ⟨w, hw, dw⟩ := he.get q2
      refine ⟨⟨xs, ys, v, w, hs, ht, hv, hw⟩, fun x H' y => ?_⟩
      obtain ⟨T, x', y', rfl, hT, rfl, y1, y2⟩ := y
      have z1 := y1 xs hs
      rw [hv] at z1
      cases z1
      have z2 := y2 ys ht
      rw [hw] at z2
      cases z2
      have nT : T ∉ R := m.used.new hT
      refine ⟨Same.upd_new hT, ?_⟩
      rw [hide_upd_ne nT]
      have k : Same (hide R H) (upd (hide R H) T (.tup [v, w])) := Same.upd_new (by rw [hide_get nT]; exact hT)
      exact .tup (SqT.of upd_same) (.cons ((dv.mono s).mono k) (.cons ((dw.mono s).mono k) .nil))

theorem ei_list (h : ED K tl ρ (.list ds)) : EI K (iList K tl) ρ ds := fun R σ H m s Q q => h R σ H m s _ fun v H1 e1 d1 => by
  obtain ⟨a, xs, rfl, hs, hd⟩ := d1.list_inv
  exact ⟨a, rfl, ⟨xs, SqL.up hs⟩, q _ H1 e1 (walk_list hs hd)⟩
theorem ei_tup (h : ED K tl ρ (.tuple ds)) : EI K (iTup K tl) ρ ds := fun R σ H m s Q q => h R σ H m s _ fun v H1 e1 d1 => by
  obtain ⟨a, xs, rfl, hs, hd⟩ := d1.tup_inv
  exact ⟨a, rfl, ⟨xs, SqT.up hs⟩, q _ H1 e1 (walk_tup hs hd)⟩
theorem ei_str {z : Str} (h : ED K tl ρ (.str z)) : EI K (iStr tl) ρ (z.cps.toList.map fun c => .str ⟨#[c]⟩) := fun R σ H m s Q q => h R σ H m s _ fun v H1 e1 d1 => by
  cases d1.str_inv
  exact ⟨z, rfl, q _ H1 e1 walk_str⟩
theorem ei_rng1 {ta : TA} {j : Int} (h : EA K ta ρ [.int j]) (h1 : -(2 ^ 62) ≤ j) (h2 : j < 2 ^ 62) : EI K (iRng1 ta) ρ ((List.range j.toNat).map fun i => .int ((i : Nat) : Int)) := fun R σ H m s Q q => h R σ H m s _ fun vs H1 e1 d1 => by
  cases d1 with
  | cons dv dr =>
    cases dr
    cases dv.int_inv
    refine ⟨j, rfl, h1, h2, q _ H1 e1 ?_⟩
    have w := walk_range (K := K) (G := hide R H1) (lo := 0) (n := j.toNat)
    simpa using w
theorem ei_rng2 {ta : TA} {i j : Int} (h : EA K ta ρ [.int i, .int j]) (h1 : -(2 ^ 62) ≤ i ∧ i < 2 ^ 62 ∧ -(2 ^ 62) ≤ j ∧ j < 2 ^ 62) : EI K (iRng2 ta) ρ ((List.range (j - i).toNat).map fun k => .int (i + (k : Nat))) := fun R σ H m s Q q => h R σ H m s _ fun vs H1 e1 d1 => by
  cases d1 with
  | cons dv dr =>
    cases dr with
    | cons dw dr =>
      cases dr
      cases dv.int_inv
      cases dw.int_inv
      exact ⟨i, j, rfl, h1, q _ H1 e1 walk_range⟩
theorem ei_revL (h : ED K tl ρ (.list ds)) : EI K (RT.iRevA K tl) ρ ds.reverse := fun R σ H m s Q q => h R σ H m s _ fun v H1 e1 d1 => by
  obtain ⟨a, xs, rfl, hs, hd⟩ := d1.list_inv
  exact ⟨a, xs, rfl, .inl ⟨SqL.up hs, q _ H1 e1 (walk_revL hs hd)⟩⟩
theorem ei_revT (h : ED K tl ρ (.tuple ds)) : EI K (RT.iRevA K tl) ρ ds.reverse := fun R σ H m s Q q => h R σ H m s _ fun v H1 e1 d1 => by
  obtain ⟨a, xs, rfl, hs, hd⟩ := d1.tup_inv
  exact ⟨a, xs, rfl, .inr ⟨SqT.up hs, q _ H1 e1 (walk_revT hs hd)⟩⟩
theorem ei_enum {ta : TA} (h : EA K ta ρ [.list ds]) : EI K (iEnum K ta) ρ (enumD ds) := fun R σ H m s Q q => h R σ H m s _ fun vs H1 e1 d1 => by
  cases d1 with
  | cons dv dr =>
    cases dr
    obtain ⟨a, xs, rfl, hs, hd⟩ := dv.list_inv
    exact ⟨a, xs, rfl, SqL.up hs, q _ H1 e1 (walk_enum hs hd)⟩
theorem ei_zip {ta : TA} (h : EA K ta ρ [.list ds, .list es]) : EI K (iZip K ta) ρ (zipD ds es) := fun R σ H m s Q q => h R σ H m s _ fun vs H1 e1 d1 => by
  cases d1 with
  | cons dv dr =>
    cases dr with
    | cons dw dr =>
      cases dr
      obtain ⟨a, xs, rfl, hs, hd⟩ := dv.list_inv
      obtain ⟨b, ys, rfl, ht, he⟩ := dw.list_inv
      exact ⟨a, b, xs, ys, rfl, SqL.up hs, SqL.up ht, q _ H1 e1 (walk_zip hs hd ht he)⟩
theorem ei_zipA {ta : TA} (h : EA K ta ρ [.tuple ds, .tuple es]) : EI K (RZ.iZipA K ta) ρ (zipD ds es) := fun R σ H m s Q q => h R σ H m s _ fun vs H1 e1 d1 => by
  cases d1 with
  | cons dv dr =>
    cases dr with
    | cons dw dr =>
      cases dr
      obtain ⟨a, xs, rfl, hs, hd⟩ := dv.tup_inv
      obtain ⟨b, ys, rfl, ht, he⟩ := dw.tup_inv
      exact ⟨a, b, xs, ys, rfl, .inr ⟨SqT.up hs, SqT.up ht, q _ H1 e1 (walk_zipT hs hd ht he)⟩⟩

/-! ### targets -/
theorem wipe_set_in {σ : L2.St} {i : Nat} {x : Option V} : ∀ {vs : List Nat}, i ∈ vs → L2.wipe (σ.set i x) vs = L2.wipe σ vs
  | [], h => nomatch h
  | v :: vs, h => by
    show (L2.wipe (σ.set i x) vs).set v none = (L2.wipe σ vs).set v none
    by_cases hv : i = v
    · subst hv
      by_cases hm : i ∈ vs
      · rw [wipe_set_in hm]
      · have key : ∀ (ws : List Nat), i ∉ ws → L2.wipe (σ.set i x) ws = (L2.wipe σ ws).set i x := by
          intro ws
          induction ws with
          | nil => intro _; rfl
          | cons w ws ih =>
            intro hw
            rw [List.mem_cons, not_or] at hw
            show (L2.wipe (σ.set i x) ws).set w none = ((L2.wipe σ ws).set w none).set i x
            rw [ih hw.2, List.set_comm _ _ hw.1]
        rw [key vs hm, List.set_set]
    · rw [wipe_set_in ((List.mem_cons.mp h).resolve_left hv)]
theorem eg_name {i : Nat} : EG K (gName i) d ρ (ρ.set i (some d)) [i] := fun R σ H v m s dv Q q =>
  q _ (s.set i dv) (fun vs hv => wipe_set_in (hv i (by simp))) (fun j hj => List.getElem?_set_ne (by simpa [eq_comm] using hj))
theorem egs_nil : EGs K gNil [] ρ ρ [] := fun R σ H vs m s dv Q q => by
  cases dv
  exact ⟨rfl, q σ s (fun _ _ => rfl) fun _ _ => rfl⟩
theorem egs_cons {g : TG} {gs : TGs} (h1 : EG K g d ρ ρ' js) (h2 : EGs K gs ds ρ' ρ'' ks) : EGs K (gCons g gs) (d :: ds) ρ ρ'' (js ++ ks) := fun R σ H vs m s dv Q q => by
  cases dv with
  | cons dv dr =>
    refine ⟨_, _, rfl, h1 R σ H _ m s dv _ fun σ1 s1 w1 o1 => h2 R σ1 H _ m s1 dr _ fun σ2 s2 w2 o2 => q σ2 s2 (fun vs hv => ?_) fun i hi => ?_⟩
    · rw [w2 vs fun j hj => hv j (List.mem_append_right _ hj), w1 vs fun j hj => hv j (List.mem_append_left _ hj)]
    · rw [List.mem_append, not_or] at hi
      rw [o2 i hi.2, o1 i hi.1]
theorem eg_tup {n : Nat} {gs : TGs} (h : EGs K gs ds ρ ρ' js) (hn : ds.length = n) : EG K (gTup K n gs) (.tuple ds) ρ ρ' js := fun R σ H v m s dv Q q => by
  obtain ⟨a, xs, rfl, hs, hd⟩ := dv.tup_inv
  exact ⟨a, xs, rfl, SqT.up hs, by rw [hd.length]; exact hn, h R σ H xs m s hd Q q⟩

/-! ### comprehensions -/
theorem ets_yes : ET K tYes ρ true := fun R σ H m s Q q => q H (Same.refl H)
/-- a list comprehension over data: x of xs, told as enc x; kept where p x holds; the item is h x -/
theorem el_lc {α : Type} {xs : List α} {enc : α → D} {wi : TI} {g : TG} {tt : TT} {vs : List Nat} {ρx : α → Rho} (p : α → Bool) (h : α → D) (hi : EI K wi ρ (xs.map enc)) (hg : ∀ x ∈ xs, EG K g (enc x) (wipeR ρ vs) (ρx x) js) (hj : ∀ j ∈ js, j ∈ vs)
    (ht : ∀ x ∈ xs, ET K tt (ρx x) (p x)) (he : ∀ x ∈ xs, p x = true → ED K te (ρx x) (h x)) (hz : xs.length < sizeLine) : EL K (tLc wi g tt te vs) ρ ((xs.filter p).map h) := fun R σ H m s Q q =>
  hi R σ H m s _ fun J H1 e1 w => fun Dl hD => by
    have m1 := m.mono e1
    have nD : Dl ∉ R := m1.used.new hD
    -- the invariant: behind i items the list at Dl holds what was made
    refine ⟨fun i mm H' => mm = xs.length - i ∧ i ≤ xs.length ∧ Same H1 H' ∧ ∃ acc, H' Dl = some (.lst acc) ∧ DvAll K (hide (Dl :: R) H') acc (((xs.take i).filter p).map h),
      ⟨xs.length, by simp, Nat.zero_le _, Same.upd_new hD, [], upd_same, by simpa using DvAll.nil⟩, ?_⟩
    rintro i mm H2 ⟨rfl, hil, e2, acc, hacc, dacc⟩
    have m2 : Muts (Dl :: R) H2 := by
      intro b hb
      rcases List.mem_cons.mp hb with rfl | hb
      · rw [hacc]
        exact ⟨by simp, rfl⟩
      · exact (m1.mono e2) b hb
    have w2 : Same (hide R H1) (hide (Dl :: R) H2) := by
      intro b o eb
      have e3 := hide_mono (R := R) e2 b o eb
      have nb : b ≠ Dl := fun z => by
        have := hide_sub b o eb
        rw [z, hD] at this
        cases this
      unfold hide at e3 ⊢
      split at e3
      · cases e3
      · rename_i hb
        rw [if_neg (fun z => (List.mem_cons.mp z).elim nb hb)]
        exact e3
    obtain ⟨wgo, wstop⟩ := w (Dl :: R) H2 m2 w2 i
    by_cases hlt : i < xs.length
    · have hget : (xs.map enc)[i]? = some (enc xs[i]) := by
        rw [List.getElem?_map, List.getElem?_eq_getElem hlt]
        rfl
      obtain ⟨go, yld⟩ := wgo _ hget
      refine .inr ⟨go, fun H' => Same H1 H' ∧ ∃ acc, H' Dl = some (.lst acc) ∧ DvAll K (hide (Dl :: R) H') acc (((xs.take (i + 1)).filter p).map h), fun H' hh => ⟨xs.length - (i + 1), by omega, rfl, hlt, hh⟩, fun x H3 y3 => ?_⟩
      obtain ⟨e3, dx⟩ := yld x H3 y3
      have m3 := m2.mono e3
      have hx : xs[i] ∈ xs := List.getElem_mem hlt
      have s3 : Sd K (hide (Dl :: R) H3) (L2.wipe σ vs) (wipeR ρ vs) := (((s.step e1).mono w2).mono (hide_mono e3)).wipe vs
      have htk : (xs.take (i + 1)).filter p = (xs.take i).filter p ++ (if p xs[i] = true then [xs[i]] else []) := by
        rw [List.take_succ, List.getElem?_eq_getElem hlt, List.filter_append]
        congr 1
        simp only [Option.toList_some]
        by_cases hp : p xs[i] = true
        · rw [if_pos hp]
          simp [hp]
        · rw [if_neg hp]
          simp [hp]
      refine hg _ hx (Dl :: R) _ H3 x m3 s3 dx _ fun σ4 s4 w4 o4 => ⟨?_, ?_⟩
      · rw [w4 vs hj]
        have idem : ∀ (ws : List Nat) (τ : L2.St), L2.wipe (L2.wipe τ ws) ws = L2.wipe τ ws := by
          intro ws
          induction ws with
          | nil => intro τ; rfl
          | cons w ws ih =>
            intro τ
            show (L2.wipe ((L2.wipe τ ws).set w none) ws).set w none = (L2.wipe τ ws).set w none
            by_cases hm : w ∈ ws
            · rw [wipe_set_in hm, ih]
            · have key : ∀ (us : List Nat) (τ' : L2.St), w ∉ us → L2.wipe (τ'.set w none) us = (L2.wipe τ' us).set w none := by
                intro us
                induction us with
                | nil => intro _ _; rfl
                | cons u us ih2 =>
                  intro τ' hu
                  rw [List.mem_cons, not_or] at hu
                  show (L2.wipe (τ'.set w none) us).set u none = ((L2.wipe τ' us).set u none).set w none
                  rw [ih2 τ' hu.2, List.set_comm _ _ hu.1]
              rw [key ws _ hm, ih, List.set_set]
        exact idem vs σ
      · refine ht _ hx (Dl :: R) σ4 H3 m3 s4 _ fun H4 e4 => ?_
        by_cases hp : p xs[i] = true
        · rw [if_pos hp]
          refine he _ hx hp (Dl :: R) σ4 H4 (m3.mono e4) (s4.step e4) _ fun y H5 e5 d5 => ?_
          have e25 : Same H2 H5 := (e3.trans e4).trans e5
          have hacc5 := e25 Dl _ hacc
          refine ⟨acc, hacc5, ?_, Same.mut (e2.trans e25) hD, acc ++ [y], upd_same, ?_⟩
          · have l1 := dacc.length
            rw [List.length_map] at l1
            have l2 := List.length_filter_le p (xs.take i)
            have l3 : (xs.take i).length ≤ xs.length := List.length_take_le' i xs
            omega
          · rw [hide_upd (List.mem_cons_self), htk, if_pos hp, List.map_append]
            exact (dacc.mono (hide_mono e25)).append (.cons d5 .nil)
        · rw [if_neg hp]
          refine ⟨e2.trans (e3.trans e4), acc, (e3.trans e4) Dl _ hacc, ?_⟩
          rw [htk, if_neg hp, List.append_nil]
          exact dacc.mono (hide_mono (e3.trans e4))
    · have hi' : i = xs.length := by omega
      subst hi'
      refine .inl ⟨wstop (by rw [List.length_map]; exact Nat.le_refl _), q Dl acc H2 (e1.trans e2) (Same.none e1 hD) hacc ?_⟩
      rw [List.take_length] at dacc
      exact dacc
/-- .. without a test -/
theorem el_lcY {α : Type} {xs : List α} {enc : α → D} {wi : TI} {g : TG} {vs : List Nat} {ρx : α → Rho} (h : α → D) (hi : EI K wi ρ (xs.map enc)) (hg : ∀ x ∈ xs, EG K g (enc x) (wipeR ρ vs) (ρx x) js) (hj : ∀ j ∈ js, j ∈ vs)
    (he : ∀ x ∈ xs, ED K te (ρx x) (h x)) (hz : xs.length < sizeLine) : EL K (tLc wi g tYes te vs) ρ (xs.map h) := by
  have e : xs.map h = (xs.filter fun _ => true).map h := by rw [List.filter_eq_self.mpr (fun _ _ => rfl)]
  rw [e]
  exact el_lc (fun _ => true) h hi hg hj (fun _ _ => ets_yes) (fun x hx _ => he x hx) hz
end
end CJ

set_option Elab.async false
set_option linter.all false
set_option maxRecDepth 100000
set_option maxHeartbeats 4000000
/-! Statements in data: what a slot holds (Sl), the state (Sg), the judgement SD, the promises spD, spL. -/
namespace CJ
open PySem L2
/-- a slot: unknown; a datum that stands still; a list of one's own; the list by which is drawn, with so many draws left -/
inductive Sl where
  | un
  | d (x : D)
  | own (xs : List D)
  | cell (n : Nat)
abbrev Sls := List Sl
def froz1 : Sl → Option D
  | .d x => some x
  | _ => none
def allR1 : Sl → Option D
  | .d x => some x
  | .own xs => some (.list xs)
  | _ => none
abbrev froz (ρ : Sls) : Rho := ρ.map froz1
abbrev allR (ρ : Sls) : Rho := ρ.map allR1
/-- R0, H0: hidden places and the heap at the def's entry; Z: those of them that may have changed; O: the lists of one's own -/
structure Sg (K : PySem.W.Frag) (Z R0 : List Addr) (H0 : Hp) (O : List Addr) (H : Hp) (σ : L2.St) (ρ : Sls) : Prop where
  same : Same (hide Z H0) (hide O H)
  zin : ∀ a ∈ Z, a ∈ R0
  muts : Muts (O ++ R0) H
  dis : ∀ a ∈ O, a ∉ R0
  len : σ.length = ρ.length
  dat : ∀ (i : Nat) (x : D), ρ[i]? = some (.d x) → ∃ v, σ[i]? = some (some v) ∧ Dv K (hide (O ++ R0) H) v x
  own : ∀ (i : Nat) (xs : List D), ρ[i]? = some (.own xs) → ∃ l vs, σ[i]? = some (some (.ref l)) ∧ l ∈ O ∧ H l = some (.lst vs) ∧ DvAll K (hide (O ++ R0) H) vs xs
  cell : ∀ (i n : Nat), ρ[i]? = some (.cell n) → ∃ A k, σ[i]? = some (some (.ref A)) ∧ A ∈ Z ∧ (0 ≤ k ∧ k + (n : Int) ≤ 2 ^ 60) ∧ H A = some (.lst [.int k])
  apart : ∀ (i j : Nat) (xs ys : List D) (l : Addr), ρ[i]? = some (.own xs) → ρ[j]? = some (.own ys) → σ[i]? = some (some (.ref l)) → σ[j]? = some (some (.ref l)) → i = j
/-- what a def gives out: a datum, a new list -/
inductive Rt where
  | d (x : D)
  | l (xs : List D)
def RetOk (K : PySem.W.Frag) (R0 : List Addr) (H0 H : Hp) (v : V) : Rt → Prop
  | .d x => Dv K (hide R0 H) v x
  | .l xs => ∃ p vs, v = .ref p ∧ H0 p = none ∧ H p = some (.lst vs) ∧ DvAll K (hide (p :: R0) H) vs xs
structure DE where
  nx : Sls → Prop
  rt : Sls → Rt → Prop := fun _ _ => False
  bk : Sls → Prop := fun _ => False
  ct : Sls → Prop := fun _ => False
structure Cov (K : PySem.W.Frag) (Z R0 : List Addr) (H0 : Hp) (E : DE) (Dn : Ends) : Prop where
  nx : ∀ O H σ ρ, Sg K Z R0 H0 O H σ ρ → E.nx ρ → Dn.nx σ H
  rt : ∀ O H σ ρ v r, Sg K Z R0 H0 O H σ ρ → RetOk K R0 H0 H v r → E.rt ρ r → Dn.rt v H
  bk : ∀ O H σ ρ, Sg K Z R0 H0 O H σ ρ → E.bk ρ → Dn.bk σ H
  ct : ∀ O H σ ρ, Sg K Z R0 H0 O H σ ρ → E.ct ρ → Dn.ct σ H
/-- a statement's reading, told in data -/
def SD (K : PySem.W.Frag) (t : TS) (ρ : Sls) (E : DE) : Prop := ∀ Z R0 H0 Dn, Muts R0 H0 → Cov K Z R0 H0 E Dn → ∀ O H σ, Sg K Z R0 H0 O H σ ρ → t Dn σ H

section
variable {K : PySem.W.Frag} {Z R0 O : List Addr} {H0 H H' : Hp} {σ : L2.St} {ρ : Sls} {E : DE} {te tl : TE} {t u : TS} {c : TT} {d e : D} {ds es : List D}
theorem mem_set {α : Type} {l : List α} {i j : Nat} {x y : α} (h : (l.set i x)[j]? = some y) : (j = i ∧ y = x ∧ i < l.length) ∨ (j ≠ i ∧ l[j]? = some y) := by
  by_cases hj : i = j
  · subst hj
    by_cases hi : i < l.length
    · rw [List.getElem?_set_self hi] at h
      exact .inl ⟨rfl, (Option.some.inj h).symm, hi⟩
    · rw [List.getElem?_eq_none (by simpa using hi)] at h
      cases h
  · rw [List.getElem?_set_ne hj] at h
    exact .inr ⟨fun z => hj z.symm, h⟩
theorem Sg.h0 (g : Sg K Z R0 H0 O H σ ρ) : Same (hide Z H0) H := g.same.trans hide_sub
theorem Sg.new (g : Sg K Z R0 H0 O H σ ρ) {l : Addr} (hl : l ∈ O) : H0 l = none := by
  cases q : H0 l with
  | none => rfl
  | some o =>
    have nz : l ∉ Z := fun z => g.dis l hl (g.zin l z)
    have := g.same l o (by rw [hide_get nz]; exact q)
    rw [hide_in hl] at this
    cases this
theorem Sg.frozen (g : Sg K Z R0 H0 O H σ ρ) : Sd K (hide (O ++ R0) H) σ (froz ρ) := by
  refine ⟨by simp [froz, g.len], fun i x h => ?_⟩
  rw [List.getElem?_map] at h
  cases q : ρ[i]? with
  | none => rw [q] at h; cases h
  | some e =>
    rw [q] at h
    cases e with
    | d y =>
      have : y = x := Option.some.inj (Option.some.inj h)
      subst this
      exact g.dat i y q
    | un => cases h
    | own _ => cases h
    | cell _ => cases h
theorem hide_app_sub {O R : List Addr} {H : Hp} : Same (hide (O ++ R) H) (hide R H) := fun a o h => by
  unfold hide at h ⊢
  split at h
  · cases h
  · rename_i ha
    rw [if_neg (fun z => ha (List.mem_append_right _ z))]
    exact h
theorem Sg.seen (g : Sg K Z R0 H0 O H σ ρ) : Sd K (hide R0 H) σ (allR ρ) := by
  refine ⟨by simp [allR, g.len], fun i x h => ?_⟩
  rw [List.getElem?_map] at h
  cases q : ρ[i]? with
  | none => rw [q] at h; cases h
  | some e =>
    rw [q] at h
    cases e with
    | d y =>
      have : y = x := Option.some.inj (Option.some.inj h)
      subst this
      obtain ⟨v, a, b⟩ := g.dat i y q
      exact ⟨v, a, b.mono hide_app_sub⟩
    | un => cases h
    | cell _ => cases h
    | own ys =>
      have : PyData.list ys = x := Option.some.inj (Option.some.inj h)
      subst this
      obtain ⟨l, vs, a, b, c, dd⟩ := g.own i ys q
      refine ⟨_, a, .lst (.inl (.inl ?_)) (dd.mono hide_app_sub)⟩
      rw [hide_get (g.dis l b)]
      exact c
theorem Sg.m0 (g : Sg K Z R0 H0 O H σ ρ) : Muts R0 H := fun a h => g.muts a (List.mem_append_right _ h)
/-- the heap has grown -/
theorem Sg.grow (g : Sg K Z R0 H0 O H σ ρ) (e : Same H H') : Sg K Z R0 H0 O H' σ ρ where
  same := g.same.trans (hide_mono e)
  zin := g.zin
  muts := g.muts.mono e
  dis := g.dis
  len := g.len
  dat := fun i x h => by
    obtain ⟨v, a, b⟩ := g.dat i x h
    exact ⟨v, a, b.mono (hide_mono e)⟩
  own := fun i xs h => by
    obtain ⟨l, vs, a, b, c, dd⟩ := g.own i xs h
    exact ⟨l, vs, a, b, e _ _ c, dd.mono (hide_mono e)⟩
  cell := fun i n h => by
    obtain ⟨A, m, a, b, c, dd⟩ := g.cell i n h
    exact ⟨A, m, a, b, c, e _ _ dd⟩
  apart := g.apart
/-- another content of one slot: what is asked of the rest follows -/
theorem Sg.reslot {i : Nat} {e : Sl} {v : Option V} (g : Sg K Z R0 H0 O H σ ρ) (hd : ∀ x, e = .d x → i < ρ.length → ∃ u, v = some u ∧ Dv K (hide (O ++ R0) H) u x) (ho : ∀ xs, e ≠ .own xs) (hc : ∀ n, e ≠ .cell n) : Sg K Z R0 H0 O H (σ.set i v) (ρ.set i e) where
  same := g.same
  zin := g.zin
  muts := g.muts
  dis := g.dis
  len := by simp [g.len]
  dat := fun j x q => by
    rcases mem_set q with ⟨rfl, e1, hi⟩ | ⟨hj, q⟩
    · obtain ⟨u, rfl, h⟩ := hd x e1.symm hi
      exact ⟨u, List.getElem?_set_self (by rw [g.len]; exact hi), h⟩
    · obtain ⟨w, a, b⟩ := g.dat j x q
      exact ⟨w, by rw [List.getElem?_set_ne (Ne.symm hj)]; exact a, b⟩
  own := fun j xs q => by
    rcases mem_set q with ⟨rfl, e1, hi⟩ | ⟨hj, q⟩
    · exact (ho xs e1.symm).elim
    · obtain ⟨l, vs, a, b⟩ := g.own j xs q
      exact ⟨l, vs, by rw [List.getElem?_set_ne (Ne.symm hj)]; exact a, b⟩
  cell := fun j n q => by
    rcases mem_set q with ⟨rfl, e1, hi⟩ | ⟨hj, q⟩
    · exact (hc n e1.symm).elim
    · obtain ⟨A, m, a, b⟩ := g.cell j n q
      exact ⟨A, m, by rw [List.getElem?_set_ne (Ne.symm hj)]; exact a, b⟩
  apart := fun j k xs ys l q1 q2 s1 s2 => by
    rcases mem_set q1 with ⟨rfl, e1, hi⟩ | ⟨hj, q1⟩
    · exact (ho xs e1.symm).elim
    · rcases mem_set q2 with ⟨rfl, e1, hi⟩ | ⟨hk, q2⟩
      · exact (ho ys e1.symm).elim
      · rw [List.getElem?_set_ne (Ne.symm hj)] at s1
        rw [List.getElem?_set_ne (Ne.symm hk)] at s2
        exact g.apart j k xs ys l q1 q2 s1 s2
/-- a slot takes a datum that stands still -/
theorem Sg.put {v : V} (g : Sg K Z R0 H0 O H σ ρ) (i : Nat) (h : Dv K (hide (O ++ R0) H) v d) : Sg K Z R0 H0 O H (σ.set i (some v)) (ρ.set i (.d d)) :=
  g.reslot (fun x e _ => by cases e; exact ⟨v, rfl, h⟩) (fun _ z => nomatch z) fun _ z => nomatch z
/-- a slot forgotten -/
theorem Sg.drop (g : Sg K Z R0 H0 O H σ ρ) (i : Nat) (v : Option V) : Sg K Z R0 H0 O H (σ.set i v) (ρ.set i .un) :=
  g.reslot (fun x e _ => nomatch e) (fun _ z => nomatch z) fun _ z => nomatch z
theorem frozen_grow {p : Addr} (e : Same H H') (hp : H p = none) {R : List Addr} : Same (hide R H) (hide (p :: R) H') := fun b o eb => by
  have nb : b ≠ p := fun z => by
    have q := hide_sub b o eb
    rw [z, hp] at q
    cases q
  have eb' := hide_mono (R := R) e b o eb
  unfold hide at eb' ⊢
  split at eb'
  · cases eb'
  · rename_i hb
    rw [if_neg (fun z => (List.mem_cons.mp z).elim nb hb)]
    exact eb'
/-- a slot takes a new list -/
theorem Sg.putL {p : Addr} {vs : List V} (g : Sg K Z R0 H0 O H σ ρ) (i : Nat) (e : Same H H') (hp : H p = none) (hx : H' p = some (.lst vs)) (h : DvAll K (hide (p :: (O ++ R0)) H') vs ds) :
    Sg K Z R0 H0 (p :: O) H' (σ.set i (some (.ref p))) (ρ.set i (.own ds)) := by
  have np : p ∉ O ++ R0 := g.muts.used.new hp
  have nO : p ∉ O := fun z => np (List.mem_append_left _ z)
  have fz : Same (hide (O ++ R0) H) (hide (p :: (O ++ R0)) H') := frozen_grow e hp
  refine ⟨g.same.trans (frozen_grow e hp), g.zin, ?_, ?_, by simp [g.len], fun j x q => ?_, fun j xs q => ?_, fun j n q => ?_, fun j k xs ys l q1 q2 s1 s2 => ?_⟩
  · intro b hb
    rcases List.mem_cons.mp hb with rfl | hb
    · rw [hx]
      exact ⟨by simp, rfl⟩
    · exact (g.muts.mono e) b hb
  · intro b hb
    rcases List.mem_cons.mp hb with rfl | hb
    · exact fun z => np (List.mem_append_right _ z)
    · exact g.dis b hb
  · rcases mem_set q with ⟨rfl, e1, hi⟩ | ⟨hj, q⟩
    · cases e1
    · obtain ⟨w, a, b⟩ := g.dat j x q
      exact ⟨w, by rw [List.getElem?_set_ne (Ne.symm hj)]; exact a, b.mono fz⟩
  · rcases mem_set q with ⟨rfl, e1, hi⟩ | ⟨hj, q⟩
    · cases e1
      exact ⟨p, vs, List.getElem?_set_self (by rw [g.len]; exact hi), List.mem_cons_self, hx, h⟩
    · obtain ⟨l, ws, a, b, c, dd⟩ := g.own j xs q
      exact ⟨l, ws, by rw [List.getElem?_set_ne (Ne.symm hj)]; exact a, List.mem_cons_of_mem _ b, e _ _ c, dd.mono fz⟩
  · rcases mem_set q with ⟨rfl, e1, hi⟩ | ⟨hj, q⟩
    · cases e1
    · obtain ⟨A, m, a, b, c, dd⟩ := g.cell j n q
      exact ⟨A, m, by rw [List.getElem?_set_ne (Ne.symm hj)]; exact a, b, c, e _ _ dd⟩
  · have npl : ∀ (j' : Nat) (zs : List D), ρ[j']? = some (Sl.own zs) → σ[j']? = some (some (V.ref p)) → False := fun j' zs q s => by
      obtain ⟨l', ws, a, b, _⟩ := g.own j' zs q
      rw [a] at s
      cases s
      exact nO b
    rcases mem_set q1 with ⟨rfl, e1, hi⟩ | ⟨hj, q1⟩
    · rcases mem_set q2 with ⟨rfl, e2, _⟩ | ⟨hk, q2⟩
      · rfl
      · rw [List.getElem?_set_self (by rw [g.len]; exact hi)] at s1
        rw [List.getElem?_set_ne (Ne.symm hk)] at s2
        cases s1
        exact (npl k ys q2 s2).elim
    · rcases mem_set q2 with ⟨rfl, e2, hi⟩ | ⟨hk, q2⟩
      · rw [List.getElem?_set_self (by rw [g.len]; exact hi)] at s2
        rw [List.getElem?_set_ne (Ne.symm hj)] at s1
        cases s2
        exact (npl j xs (by assumption) s1).elim
      · rw [List.getElem?_set_ne (Ne.symm hj)] at s1
        rw [List.getElem?_set_ne (Ne.symm hk)] at s2
        exact g.apart j k xs ys l q1 q2 s1 s2
theorem ref_inj {a b : Addr} (h : (some (some (V.ref a)) : Option (Option V)) = some (some (V.ref b))) : a = b := by
  injection h with h
  injection h with h
  injection h
/-- a list of one's own changes -/
theorem Sg.write {i : Nat} {l : Addr} {vs : List V} {xs ys : List D} (g : Sg K Z R0 H0 O H σ ρ) (hi : ρ[i]? = some (.own xs)) (hl : σ[i]? = some (some (.ref l))) (h : DvAll K (hide (O ++ R0) H) vs ys) :
    Sg K Z R0 H0 O (upd H l (.lst vs)) σ (ρ.set i (.own ys)) := by
  obtain ⟨l', ws, a, hO, c, dd⟩ := g.own i xs hi
  cases ref_inj (a.symm.trans hl)
  have e1 : hide (O ++ R0) (upd H l (.lst vs)) = hide (O ++ R0) H := hide_upd (List.mem_append_left _ hO)
  have e2 : hide O (upd H l (.lst vs)) = hide O H := hide_upd hO
  refine ⟨by rw [e2]; exact g.same, g.zin, fun b hb => ?_, g.dis, by simp [g.len], fun j x q => ?_, fun j zs q => ?_, fun j n q => ?_, fun j k zs us m q1 q2 s1 s2 => ?_⟩
  · by_cases hbl : b = l
    · subst hbl
      rw [upd_same]
      exact ⟨by simp, rfl⟩
    · rw [upd_ne hbl]
      exact g.muts b hb
  · rw [e1]
    rcases mem_set q with ⟨rfl, e, hi'⟩ | ⟨hj, q⟩
    · cases e
    · exact g.dat j x q
  · rw [e1]
    rcases mem_set q with ⟨rfl, e, hi'⟩ | ⟨hj, q⟩
    · cases e
      exact ⟨l, vs, hl, hO, upd_same, h⟩
    · obtain ⟨m, us, a2, b2, c2, d2⟩ := g.own j zs q
      have hm : m ≠ l := fun z => by
        subst z
        exact hj (g.apart j i zs xs m q hi a2 hl)
      exact ⟨m, us, a2, b2, by rw [upd_ne hm]; exact c2, d2⟩
  · rcases mem_set q with ⟨rfl, e, hi'⟩ | ⟨hj, q⟩
    · cases e
    · obtain ⟨A, m, a2, b2, c2, d2⟩ := g.cell j n q
      have hm : A ≠ l := fun z => by
        subst z
        exact g.dis A hO (g.zin A b2)
      exact ⟨A, m, a2, b2, c2, by rw [upd_ne hm]; exact d2⟩
  · have old : ∀ (j' : Nat) (zs' : List D), (ρ.set i (Sl.own ys))[j']? = some (Sl.own zs') → ∃ ws', ρ[j']? = some (Sl.own ws') := fun j' zs' q => by
      rcases mem_set q with ⟨rfl, _, _⟩ | ⟨_, q⟩
      · exact ⟨xs, hi⟩
      · exact ⟨zs', q⟩
    obtain ⟨w1, r1⟩ := old j zs q1
    obtain ⟨w2, r2⟩ := old k us q2
    exact g.apart j k w1 w2 m r1 r2 s1 s2
/-- a list of one's own changes no more -/
theorem Sg.still {i : Nat} {xs : List D} (g : Sg K Z R0 H0 O H σ ρ) (hi : ρ[i]? = some (.own xs)) : ∃ O', Sg K Z R0 H0 O' H σ (ρ.set i (.d (.list xs))) := by
  obtain ⟨l, ws, a, hO, c, dd⟩ := g.own i xs hi
  refine ⟨O.filter fun b => decide (b ≠ l), ?_⟩
  have sub : ∀ b, b ∈ O.filter (fun b => decide (b ≠ l)) → b ∈ O ∧ b ≠ l := fun b hb => ⟨(List.mem_filter.mp hb).1, of_decide_eq_true (List.mem_filter.mp hb).2⟩
  have fz : Same (hide (O ++ R0) H) (hide (O.filter (fun b => decide (b ≠ l)) ++ R0) H) := by
    intro b o eb
    unfold hide at eb ⊢
    split at eb
    · cases eb
    · rename_i hb
      rw [if_neg (fun z => hb ((List.mem_append.mp z).elim (fun z => List.mem_append_left _ (sub b z).1) fun z => List.mem_append_right _ z))]
      exact eb
  have iL : i < ρ.length := (List.getElem?_eq_some_iff.mp hi).1
  refine ⟨?_, g.zin, ?_, fun b hb => g.dis b (sub b hb).1, by simp [g.len], fun j x q => ?_, fun j zs q => ?_, fun j n q => ?_, fun j k zs us m q1 q2 s1 s2 => ?_⟩
  · intro b o eb
    have h1 := g.same b o eb
    unfold hide at h1 ⊢
    split at h1
    · cases h1
    · rename_i hb
      rw [if_neg (fun z => hb (sub b z).1)]
      exact h1
  · intro b hb
    rcases List.mem_append.mp hb with z | z
    · exact g.muts b (List.mem_append_left _ (sub b z).1)
    · exact g.muts b (List.mem_append_right _ z)
  · rcases mem_set q with ⟨rfl, e, hi'⟩ | ⟨hj, q⟩
    · cases e
      refine ⟨_, a, .lst (.inl (.inl ?_)) (dd.mono fz)⟩
      rw [hide_get ?_]
      · exact c
      · intro z
        rcases List.mem_append.mp z with z | z
        · exact (sub l z).2 rfl
        · exact g.dis l hO z
    · obtain ⟨w, a1, b1⟩ := g.dat j x q
      exact ⟨w, a1, b1.mono fz⟩
  · rcases mem_set q with ⟨rfl, e, hi'⟩ | ⟨hj, q⟩
    · cases e
    · obtain ⟨m, us, a2, b2, c2, d2⟩ := g.own j zs q
      have hm : m ≠ l := fun z => by
        subst z
        exact hj (g.apart j i zs xs m q hi a2 a)
      exact ⟨m, us, a2, List.mem_filter.mpr ⟨b2, decide_eq_true hm⟩, c2, d2.mono fz⟩
  · rcases mem_set q with ⟨rfl, e, hi'⟩ | ⟨hj, q⟩
    · cases e
    · exact g.cell j n q
  · rcases mem_set q1 with ⟨rfl, e, hi'⟩ | ⟨hj, q1⟩
    · cases e
    · rcases mem_set q2 with ⟨rfl, e, hi'⟩ | ⟨hk, q2⟩
      · cases e
      · exact g.apart j k zs us m q1 q2 s1 s2

/-! ### statements -/
theorem sd_seq (h : SD K t ρ { E with nx := fun ρ' => SD K u ρ' E }) : SD K (tSeq t u) ρ E := fun Z R0 H0 Dn m c O H σ g =>
  h Z R0 H0 { Dn with nx := u Dn } m ⟨fun O' H' σ' ρ' g' h' => h' Z R0 H0 Dn m c O' H' σ' g', c.rt, c.bk, c.ct⟩ O H σ g
theorem sd_next (h : E.nx ρ) : SD K tNext ρ E := fun Z R0 H0 Dn m c O H σ g => c.nx O H σ ρ g h
theorem sd_brk (h : E.bk ρ) : SD K tBreak ρ E := fun Z R0 H0 Dn m c O H σ g => c.bk O H σ ρ g h
theorem sd_cont (h : E.ct ρ) : SD K tCont ρ E := fun Z R0 H0 Dn m c O H σ g => c.ct O H σ ρ g h
theorem keep_all {R : List Addr} {v : V} (m : Muts (O ++ R) H) (p : pureD d = true) (h : Dv K (hide R H) v d) : Dv K (hide (O ++ R) H) v d := (h.mono hide_sub).keep m.keep p
theorem keep_allL {R : List Addr} {vs : List V} (m : Muts (O ++ R) H) (p : pureL ds = true) (h : DvAll K (hide R H) vs ds) : DvAll K (hide (O ++ R) H) vs ds := (h.mono hide_sub).keep m.keep p
theorem sd_set {i : Nat} (h : ED K te (allR ρ) d) (p : pureD d = true) (k : E.nx (ρ.set i (.d d))) : SD K (tAsg te (gName i)) ρ E := fun Z R0 H0 Dn m c O H σ g =>
  h R0 σ H g.m0 g.seen _ fun v H1 e1 d1 => c.nx O H1 _ _ ((g.grow e1).put i (keep_all (g.muts.mono e1) p d1)) k
theorem sd_setF {i : Nat} (h : ED K te (froz ρ) d) (k : E.nx (ρ.set i (.d d))) : SD K (tAsg te (gName i)) ρ E := fun Z R0 H0 Dn m c O H σ g =>
  h (O ++ R0) σ H g.muts g.frozen _ fun v H1 e1 d1 => c.nx O H1 _ _ ((g.grow e1).put i d1) k
theorem sd_setL {i : Nat} (h : EL K te (froz ρ) ds) (k : E.nx (ρ.set i (.own ds))) : SD K (tAsg te (gName i)) ρ E := fun Z R0 H0 Dn m c O H σ g =>
  h (O ++ R0) σ H g.muts g.frozen _ fun q xs H1 e1 hq hx d1 => c.nx (q :: O) H1 _ _ (g.putL i e1 hq hx d1) k
theorem sd_setLP {i : Nat} (h : EL K te (allR ρ) ds) (p : pureL ds = true) (k : E.nx (ρ.set i (.own ds))) : SD K (tAsg te (gName i)) ρ E := fun Z R0 H0 Dn m c O H σ g =>
  h R0 σ H g.m0 g.seen _ fun q xs H1 e1 hq hx d1 => by
    refine c.nx (q :: O) H1 _ _ (g.putL i e1 hq hx ?_) k
    have mq : Muts (q :: (O ++ R0)) H1 := by
      intro b hb
      rcases List.mem_cons.mp hb with rfl | hb
      · rw [hx]
        exact ⟨by simp, rfl⟩
      · exact (g.muts.mono e1) b hb
    exact (d1.mono hide_sub).keep mq.keep p
theorem sd_ret (h : ED K te (allR ρ) d) (p : pureD d = true) (k : E.rt ρ (.d d)) : SD K (tRet te) ρ E := fun Z R0 H0 Dn m c O H σ g =>
  h R0 σ H g.m0 g.seen _ fun v H1 e1 d1 => c.rt O H1 σ ρ v (.d d) (g.grow e1) d1 k
theorem sd_retA (h : ED K te (allR ρ) d) (k : E.rt ρ (.d d)) : SD K (tRet te) ρ E := fun Z R0 H0 Dn m c O H σ g =>
  h R0 σ H g.m0 g.seen _ fun v H1 e1 d1 => c.rt O H1 σ ρ v (.d d) (g.grow e1) d1 k
theorem sd_retN (k : E.rt ρ (.d .none)) : SD K tRetN ρ E := fun Z R0 H0 Dn m c O H σ g => c.rt O H σ ρ _ (.d .none) g .non k
theorem Sg.fresh {p : Addr} {o : HO} (g : Sg K Z R0 H0 O H σ ρ) (hp : H p = none) : H0 p = none := by
  cases q : H0 p with
  | none => rfl
  | some u =>
    have nz : p ∉ Z := fun z => g.muts.used p (List.mem_append_right _ (g.zin p z)) hp
    have := g.h0 p u (by rw [hide_get nz]; exact q)
    rw [hp] at this
    cases this
theorem sd_retL (h : EL K te (allR ρ) ds) (k : E.rt ρ (.l ds)) : SD K (tRet te) ρ E := fun Z R0 H0 Dn m c O H σ g =>
  h R0 σ H g.m0 g.seen _ fun q xs H1 e1 hq hx d1 => c.rt O H1 σ ρ _ (.l ds) (g.grow e1) ⟨q, xs, rfl, g.fresh (o := .lst []) hq, hx, d1⟩ k
theorem sd_retO {i : Nat} {xs : List D} (hi : ρ[i]? = some (.own xs)) (k : E.rt ρ (.l xs)) : SD K (tRet (tVar i)) ρ E := fun Z R0 H0 Dn m c O H σ g => by
  obtain ⟨l, vs, a, b, hl, dd⟩ := g.own i xs hi
  refine ⟨_, a, c.rt O H σ ρ _ (.l xs) g ⟨l, vs, rfl, g.new b, hl, dd.mono ?_⟩ k⟩
  intro b' o eb
  unfold hide at eb ⊢
  split at eb
  · cases eb
  · rename_i hb
    rw [if_neg]
    · exact eb
    · intro z
      rcases List.mem_cons.mp z with rfl | z
      · exact hb (List.mem_append_left _ b)
      · exact hb (List.mem_append_right _ z)
theorem sd_if {b : Bool} (h : ET K c (allR ρ) b) (h1 : b = true → SD K t ρ E) (h2 : b = false → SD K u ρ E) : SD K (tIfS c t u) ρ E := fun Z R0 H0 Dn m cv O H σ g =>
  h R0 σ H g.m0 g.seen _ fun H1 e1 => by
    cases b with
    | true => exact h1 rfl Z R0 H0 Dn m cv O H1 σ (g.grow e1)
    | false => exact h2 rfl Z R0 H0 Dn m cv O H1 σ (g.grow e1)
theorem sd_expr (h : ED K te (allR ρ) d) (k : E.nx ρ) : SD K (tDrop te) ρ E := fun Z R0 H0 Dn m c O H σ g =>
  h R0 σ H g.m0 g.seen _ fun v H1 e1 d1 => c.nx O H1 _ _ (g.grow e1) k
/-- xs.append(e), xs a list of one's own -/
theorem sd_app {i : Nat} {xs : List D} (hi : ρ[i]? = some (.own xs)) (h : ED K te (allR ρ) d) (p : pureD d = true) (hz : xs.length < sizeLine) (k : E.nx (ρ.set i (.own (xs ++ [d])))) :
    SD K (tDrop (tBM K "list" rAppend (tVar i) (tCons te tNil))) ρ E := fun Z R0 H0 Dn m c O H σ g => by
  obtain ⟨l, vs, a, b, hl, dd⟩ := g.own i xs hi
  refine ⟨_, a, .inl ⟨rfl, _, SqL.of hl⟩, h R0 σ H g.m0 g.seen _ fun v H1 e1 d1 => ⟨l, vs, v, rfl, rfl, e1 _ _ hl, by rw [dd.length]; exact hz, ?_⟩⟩
  exact c.nx O _ _ _ ((g.grow e1).write hi a ((dd.mono (hide_mono e1)).append (.cons (keep_all (g.muts.mono e1) p d1) .nil))) k
theorem sd_appF {i : Nat} {xs : List D} (hi : ρ[i]? = some (.own xs)) (h : ED K te (froz ρ) d) (hz : xs.length < sizeLine) (k : E.nx (ρ.set i (.own (xs ++ [d])))) :
    SD K (tDrop (tBM K "list" rAppend (tVar i) (tCons te tNil))) ρ E := fun Z R0 H0 Dn m c O H σ g => by
  obtain ⟨l, vs, a, b, hl, dd⟩ := g.own i xs hi
  refine ⟨_, a, .inl ⟨rfl, _, SqL.of hl⟩, h (O ++ R0) σ H g.muts g.frozen _ fun v H1 e1 d1 => ⟨l, vs, v, rfl, rfl, e1 _ _ hl, by rw [dd.length]; exact hz, ?_⟩⟩
  exact c.nx O _ _ _ ((g.grow e1).write hi a ((dd.mono (hide_mono e1)).append (.cons d1 .nil))) k
/-- xs.extend(a new list) -/
theorem sd_ext {i : Nat} {xs : List D} (hi : ρ[i]? = some (.own xs)) (h : EL K te (allR ρ) ds) (p : pureL ds = true) (hz : xs.length + ds.length ≤ sizeLine) (k : E.nx (ρ.set i (.own (xs ++ ds)))) :
    SD K (tDrop (tBM K "list" rExtend (tVar i) (tCons te tNil))) ρ E := fun Z R0 H0 Dn m c O H σ g => by
  obtain ⟨l, vs, a, b, hl, dd⟩ := g.own i xs hi
  refine ⟨_, a, .inl ⟨rfl, _, SqL.of hl⟩, h R0 σ H g.m0 g.seen _ fun q us H1 e1 hq hx d1 => ⟨l, q, vs, us, rfl, rfl, e1 _ _ hl, hx, by rw [dd.length, d1.length]; exact hz, ?_⟩⟩
  exact c.nx O _ _ _ ((g.grow e1).write hi a ((dd.mono (hide_mono e1)).append (keep_allL (g.muts.mono e1) p (d1.mono hide_cons_sub)))) k
theorem sd_still {i : Nat} {xs : List D} (hi : ρ[i]? = some (.own xs)) (h : SD K t (ρ.set i (.d (.list xs))) E) : SD K t ρ E := fun Z R0 H0 Dn m c O H σ g => by
  obtain ⟨O', g'⟩ := g.still hi
  exact h Z R0 H0 Dn m c O' H σ g'
/-- a slot is forgotten -/
theorem sd_weak {ρ' : Sls} (hl : ρ'.length = ρ.length) (w : ∀ (i : Nat) (e : Sl), ρ'[i]? = some e → e = .un ∨ ρ[i]? = some e) (h : SD K t ρ' E) : SD K t ρ E := fun Z R0 H0 Dn m c O H σ g =>
  h Z R0 H0 Dn m c O H σ ⟨g.same, g.zin, g.muts, g.dis, by rw [hl, g.len], fun i x q => g.dat i x ((w i _ q).resolve_left (by simp)), fun i x q => g.own i x ((w i _ q).resolve_left (by simp)), fun i n q => g.cell i n ((w i _ q).resolve_left (by simp)),
    fun i j xs ys l q1 q2 => g.apart i j xs ys l ((w i _ q1).resolve_left (by simp)) ((w j _ q2).resolve_left (by simp))⟩

/-! ### loops -/
/-- a target takes a datum -/
def EGS (K : PySem.W.Frag) (g : TG) (d : D) (ρ ρ' : Sls) : Prop := ∀ Z R0 H0 O H σ v, Sg K Z R0 H0 O H σ ρ → Dv K (hide (O ++ R0) H) v d → ∀ Q : L2.St → Hp → Prop, (∀ σ', Sg K Z R0 H0 O H σ' ρ' → Q σ' H) → g v σ H Q
def EGSs (K : PySem.W.Frag) (g : TGs) (ds : List D) (ρ ρ' : Sls) : Prop := ∀ Z R0 H0 O H σ vs, Sg K Z R0 H0 O H σ ρ → DvAll K (hide (O ++ R0) H) vs ds → ∀ Q : L2.St → Hp → Prop, (∀ σ', Sg K Z R0 H0 O H σ' ρ' → Q σ' H) → g vs σ H Q
theorem egs_name {i : Nat} : EGS K (gName i) d ρ (ρ.set i (.d d)) := fun Z R0 H0 O H σ v g dv Q q => q _ (g.put i dv)
theorem egss_nil : EGSs K gNil [] ρ ρ := fun Z R0 H0 O H σ vs g dv Q q => by
  cases dv
  exact ⟨rfl, q σ g⟩
theorem egss_cons {g : TG} {gs : TGs} {ρ' ρ'' : Sls} (h1 : EGS K g d ρ ρ') (h2 : EGSs K gs ds ρ' ρ'') : EGSs K (gCons g gs) (d :: ds) ρ ρ'' := fun Z R0 H0 O H σ vs s dv Q q => by
  cases dv with
  | cons dv dr => exact ⟨_, _, rfl, h1 Z R0 H0 O H σ _ s dv _ fun σ1 s1 => h2 Z R0 H0 O H σ1 _ s1 dr _ q⟩
theorem egs_tup {n : Nat} {gs : TGs} {ρ' : Sls} (h : EGSs K gs ds ρ ρ') (hn : ds.length = n) : EGS K (gTup K n gs) (.tuple ds) ρ ρ' := fun Z R0 H0 O H σ v s dv Q q => by
  obtain ⟨a, xs, rfl, hs, hd⟩ := dv.tup_inv
  exact ⟨a, xs, rfl, SqT.up hs, by rw [hd.length]; exact hn, h Z R0 H0 O H σ xs s hd Q q⟩
theorem Sg.re {H0' : Hp} (g : Sg K Z R0 H0' O H σ ρ) (e : Same (hide Z H0) (hide Z H0')) : Sg K Z R0 H0 O H σ ρ := ⟨e.trans g.same, g.zin, g.muts, g.dis, g.len, g.dat, g.own, g.cell, g.apart⟩
theorem Sg.now (g : Sg K Z R0 H0 O H σ ρ) : Sg K Z R0 (hide O H) O H σ ρ := ⟨hide_sub, g.zin, g.muts, g.dis, g.len, g.dat, g.own, g.cell, g.apart⟩
theorem Sg.mutsAt (g : Sg K Z R0 H0 O H σ ρ) : Muts R0 (hide O H) := fun a h => by
  rw [hide_get (fun z => g.dis a z h)]
  exact g.m0 a h
theorem same_hide (g : Sg K Z R0 H0 O H σ ρ) : Same (hide Z H0) (hide Z (hide O H)) := fun a o h => by
  have nz : a ∉ Z := fun z => by
    rw [hide_in z] at h
    cases h
  rw [hide_get nz]
  exact g.same a o h
theorem RetOk.re {H0' : Hp} {v : V} (e : ∀ p, H0' p = none → H p ≠ none → p ∉ R0 → H0 p = none) (hR : ∀ p, H p ≠ none → p ∈ R0 → H0' p ≠ none) : ∀ {r : Rt}, RetOk K R0 H0' H v r → RetOk K R0 H0 H v r
  | .d x, h => h
  | .l xs, ⟨p, vs, a, b, c, d⟩ => ⟨p, vs, a, e p b (by rw [c]; simp) (fun z => hR p (by rw [c]; simp) z b), c, d⟩
/-- what stood still at one time stands still as long as the entry is taken there -/
theorem Sg.stays {O' : List Addr} {H' : Hp} {σ' : L2.St} {ρ' : Sls} (g : Sg K Z R0 (hide O H) O' H' σ' ρ') : Same (hide (O ++ R0) H) (hide (O' ++ R0) H') := fun a o h => by
  have zR := g.zin
  have hR : a ∉ R0 := fun z => by
    rw [hide_in (List.mem_append_right _ z)] at h
    cases h
  have hO : a ∉ O := fun z => by
    rw [hide_in (List.mem_append_left _ z)] at h
    cases h
  have h1 : hide O H a = some o := by
    rw [hide_get hO]
    exact hide_sub a o h
  have h2 := g.same a o (by rw [hide_get (fun z => hR (zR a z))]; exact h1)
  have hO' : a ∉ O' := fun z => by
    rw [hide_in z] at h2
    cases h2
  rw [hide_get (fun z => (List.mem_append.mp z).elim hO' hR)]
  exact hide_sub a o h2
theorem for_core {wi : TI} {g : TG} {tb : TS} {ds : List D} {Dn : Ends} (W : Nat → Sls → Prop) (m : Muts R0 H0) (c : Cov K Z R0 H0 E Dn) (gg : Sg K Z R0 H0 O H σ ρ)
    (hi : ∀ Rr : It → Hp → Prop, (∀ J H', Same H H' → Walk K J (hide (O ++ R0) H') ds → Rr J H') → wi σ H Rr) (h0 : W 0 ρ)
    (hs : ∀ (i : Nat) d ρ', ds[i]? = some d → W i ρ' → ∃ ρ'', EGS K g d ρ' ρ'' ∧ SD K tb ρ'' { E with nx := W (i + 1), ct := W (i + 1), bk := E.nx }) (hd : ∀ ρ', W ds.length ρ' → E.nx ρ') : tFor wi g tb Dn σ H :=
  hi _ fun J H1 e1 w => by
    refine ⟨fun i mm σ' H' => mm = ds.length - i ∧ i ≤ ds.length ∧ ∃ O' ρ', Sg K Z R0 H0 O' H' σ' ρ' ∧ W i ρ' ∧ Same (hide (O ++ R0) H1) (hide (O' ++ R0) H'), ⟨ds.length, by simp, Nat.zero_le _, O, ρ, gg.grow e1, h0, Same.refl _⟩, ?_⟩
    rintro i mm σ2 H2 ⟨rfl, hil, O2, ρ2, g2, w2, f2⟩
    obtain ⟨wgo, wstop⟩ := w (O2 ++ R0) H2 g2.muts f2 i
    by_cases hlt : i < ds.length
    · obtain ⟨go, yld⟩ := wgo _ (List.getElem?_eq_getElem hlt)
      refine .inr ⟨go, fun σ' H' => ∃ O' ρ', Sg K Z R0 H0 O' H' σ' ρ' ∧ W (i + 1) ρ' ∧ Same (hide (O ++ R0) H1) (hide (O' ++ R0) H'), fun σ' H' hh => ⟨ds.length - (i + 1), by omega, rfl, hlt, hh⟩, fun x H3 y3 => ?_⟩
      obtain ⟨e3, dx⟩ := yld x H3 y3
      obtain ⟨ρ4, hg, hb⟩ := hs i _ ρ2 (List.getElem?_eq_getElem hlt) w2
      refine hg Z R0 H0 O2 H3 σ2 x (g2.grow e3) dx _ fun σ4 g4 => ?_
      -- the body is run over an entry of its own: the walk's things stand still
      have e23 : Same (hide Z H0) (hide Z (hide O2 H3)) := same_hide (g2.grow e3)
      have f3 : Same (hide (O ++ R0) H1) (hide (O2 ++ R0) H3) := f2.trans (hide_mono e3)
      have nh : ∀ p, hide O2 H3 p = none → p ∉ R0 → H0 p = none := fun p hp nR => by
        cases q : H0 p with
        | none => rfl
        | some o =>
          have nz : p ∉ Z := fun z => nR (g2.zin p z)
          have := e23 p o (by rw [hide_get nz]; exact q)
          rw [hide_get nz, hp] at this
          cases this
      refine hb Z R0 (hide O2 H3) _ (g2.grow e3).mutsAt ?_ O2 H3 σ4 g4.now
      exact ⟨fun O' H' σ' ρ' g' h' => ⟨O', ρ', g'.re e23, h', f3.trans g'.stays⟩, fun O' H' σ' ρ' v r g' h' hr => c.rt O' H' σ' ρ' v r (g'.re e23) (h'.re (fun p hp _ nR => nh p hp nR) fun p _ hR => ((g2.grow e3).mutsAt p hR).1) hr, fun O' H' σ' ρ' g' h' => c.nx O' H' σ' ρ' (g'.re e23) h', fun O' H' σ' ρ' g' h' => ⟨O', ρ', g'.re e23, h', f3.trans g'.stays⟩⟩
    · have hi' : i = ds.length := by omega
      subst hi'
      exact .inl ⟨wstop (Nat.le_refl _), c.nx O2 H2 σ2 ρ2 g2 (hd ρ2 w2)⟩
theorem sd_for {wi : TI} {g : TG} {tb : TS} {ds : List D} (W : Nat → Sls → Prop) (hi : EI K wi (froz ρ) ds) (h0 : W 0 ρ)
    (hs : ∀ (i : Nat) d ρ', ds[i]? = some d → W i ρ' → ∃ ρ'', EGS K g d ρ' ρ'' ∧ SD K tb ρ'' { E with nx := W (i + 1), ct := W (i + 1), bk := E.nx }) (hd : ∀ ρ', W ds.length ρ' → E.nx ρ') : SD K (tFor wi g tb) ρ E := fun Z R0 H0 Dn m c O H σ gg =>
  for_core W m c gg (fun Rr hr => hi (O ++ R0) σ H gg.muts gg.frozen Rr hr) h0 hs hd
theorem sd_while {b : Sls → Bool} (W : Nat → Sls → Prop) {n0 : Nat} (h0 : W n0 ρ) (hc : ∀ n ρ', W n ρ' → ET K c (allR ρ') (b ρ'))
    (hs : ∀ n ρ', W n ρ' → b ρ' = true → SD K t ρ' { E with nx := fun ρ'' => ∃ m, m < n ∧ W m ρ'', ct := fun ρ'' => ∃ m, m < n ∧ W m ρ'', bk := E.nx }) (hd : ∀ n ρ', W n ρ' → b ρ' = false → E.nx ρ') : SD K (tWhile c t) ρ E := fun Z R0 H0 Dn m cv O H σ g => by
  refine ⟨fun n σ' H' => ∃ O' ρ', Sg K Z R0 H0 O' H' σ' ρ' ∧ W n ρ', ⟨n0, O, ρ, g, h0⟩, ?_⟩
  rintro n σ1 H1 ⟨O1, ρ1, g1, w1⟩
  refine hc n ρ1 w1 R0 σ1 H1 g1.m0 g1.seen _ fun H2 e2 => ?_
  cases hb : b ρ1 with
  | true =>
    rw [if_pos rfl]
    refine ⟨fun σ' H' => ∃ m, m < n ∧ ∃ O' ρ', Sg K Z R0 H0 O' H' σ' ρ' ∧ W m ρ', fun σ' H' ⟨m, hm, hh⟩ => ⟨m, hm, hh⟩, ?_⟩
    refine hs n ρ1 w1 hb Z R0 H0 _ m ?_ O1 H2 σ1 (g1.grow e2)
    exact ⟨fun O' H' σ' ρ' g' ⟨k, hk, hw⟩ => ⟨k, hk, O', ρ', g', hw⟩, cv.rt, cv.nx, fun O' H' σ' ρ' g' ⟨k, hk, hw⟩ => ⟨k, hk, O', ρ', g', hw⟩⟩
  | false =>
    rw [if_neg Bool.false_ne_true]
    exact cv.nx O1 H2 σ1 ρ1 (g1.grow e2) (hd n ρ1 w1 hb)
end

/-! ### promises -/
/-- a def that hands back a datum -/
def spD {α : Type} (K : PySem.W.Frag) (pre : α → Prop) (args : α → List D) (f : α → D) : Sp := fun vs H Q _ => ∃ (R : List Addr) (x : α), pre x ∧ Muts R H ∧ DvAll K (hide R H) vs (args x) ∧ ∀ v H', Same H H' → Dv K (hide R H') v (f x) → Q v H'
/-- .. a new list -/
def spL {α : Type} (K : PySem.W.Frag) (pre : α → Prop) (args : α → List D) (f : α → List D) : Sp := fun vs H Q _ => ∃ (R : List Addr) (x : α), pre x ∧ Muts R H ∧ DvAll K (hide R H) vs (args x) ∧
  ∀ p xs H', Same H H' → H p = none → H' p = some (.lst xs) → DvAll K (hide (p :: R) H') xs (f x) → Q (.ref p) H'
section
variable {K : PySem.W.Frag} {ρ : Rho} {ta : TA} {α : Type} {pre : α → Prop} {args : α → List D} {E : XK}
theorem ed_call {f : α → D} (x : α) (h : EA K ta ρ (args x)) (hp : pre x) : ED K (tCall (spD K pre args f) [] E ta) ρ (f x) := fun R σ H m s Q q =>
  h R σ H m s _ fun vs H1 e1 d1 => ⟨R, x, hp, m.mono e1, by rw [List.append_nil]; exact d1, fun v H2 e2 d2 => q v H2 (e1.trans e2) d2⟩
theorem el_call {f : α → List D} (x : α) (h : EA K ta ρ (args x)) (hp : pre x) : EL K (tCall (spL K pre args f) [] E ta) ρ (f x) := fun R σ H m s Q q =>
  h R σ H m s _ fun vs H1 e1 d1 => ⟨R, x, hp, m.mono e1, by rw [List.append_nil]; exact d1, fun p xs H2 e2 hp hx d2 => q p xs H2 (e1.trans e2) (Same.none e1 hp) hx d2⟩
end
theorem Sg.h00 {K : PySem.W.Frag} {R0 O : List Addr} {H0 H : Hp} {σ : L2.St} {ρ : Sls} (g : Sg K [] R0 H0 O H σ ρ) : Same H0 H := by
  have h := g.h0
  rw [hide_nil] at h
  exact h
/-- the slots at the entry -/
def entry (n : Nat) (ds : List D) : Sls := ds.map .d ++ List.replicate (n - ds.length) .un
theorem entry_sg {K : PySem.W.Frag} {R : List Addr} {H : Hp} {vs : List V} {ds : List D} (N : List Str) (m : Muts R H) (h : DvAll K (hide R H) vs ds) : Sg K [] R H [] H (L2.start N vs) (entry N.length ds) := by
  have hl := h.length
  refine ⟨Same.refl _, (fun _ z => by cases z), by rw [List.nil_append]; exact m, (fun _ z => by cases z), by simp [L2.start, entry, hl], fun i x q => ?_, fun i xs q => ?_, fun i n q => ?_, fun i j xs ys l q => ?_⟩
  · unfold entry at q
    by_cases hi : i < ds.length
    · rw [List.getElem?_append_left (by simpa using hi), List.getElem?_map, List.getElem?_eq_getElem hi] at q
      have e : ds[i] = x := by
        injection q with q
        injection q
      obtain ⟨v, hv, dv⟩ := h.get (i := i) (d := x) (by rw [List.getElem?_eq_getElem hi, e])
      refine ⟨v, ?_, by rw [List.nil_append]; exact dv⟩
      unfold L2.start
      rw [List.getElem?_append_left (by simp [hl]; exact hi), List.getElem?_map, hv]
      rfl
    · rw [List.getElem?_append_right (by simpa using hi)] at q
      have := List.mem_of_getElem? q
      rw [List.mem_replicate] at this
      cases this.2
  · have := List.mem_of_getElem? q
    unfold entry at this
    rcases List.mem_append.mp this with z | z
    · obtain ⟨_, _, e⟩ := List.mem_map.mp z
      cases e
    · rw [List.mem_replicate] at z
      cases z.2
  · have := List.mem_of_getElem? q
    unfold entry at this
    rcases List.mem_append.mp this with z | z
    · obtain ⟨_, _, e⟩ := List.mem_map.mp z
      cases e
    · rw [List.mem_replicate] at z
      cases z.2
  · have := List.mem_of_getElem? q
    unfold entry at this
    rcases List.mem_append.mp this with z | z
    · obtain ⟨_, _, e⟩ := List.mem_map.mp z
      cases e
    · rw [List.mem_replicate] at z
      cases z.2
section
variable {P : Program} {w : World} {K : PySem.W.Frag} {mg : Str → Option Value} {base : Heap} {x qual : Str} {st : Stmt} {f : Addr} {fd : FuncData} {N ps : List Str} {k : Nat} {α : Type} {pre : α → Prop} {args : α → List D}
/-- what a def is to hand back -/
def retD (d : D) : DE := { nx := fun _ => d = PyData.none, rt := fun _ r => r = .d d }
def retL (ds : List D) : DE := { nx := fun _ => False, rt := fun _ r => r = .l ds }
/-- THE RULE for a def by data: its body's reading as SD -/
theorem okD {g : α → D} (F : Fun K x qual st f fd) (S : FnScope N ps (defScope st)) (len : ∀ a, (args a).length = ps.length)
    (hbody : ∀ (cdv : Value) (A : Around) (outer : List Env) (s : Shared) (H : Hp) (E : XK), Room k (A.deeper (PyProof.Rows.envOfC qual (defScope st) s.heap.objs.size f cdv)) →
      ∃ t, PSs (cxOf CX0 P w K mg base N qual (defScope st) f cdv A outer s H E).nox (defBody st) t ∧ ∀ a, pre a → SD K t (entry N.length (args a)) (retD (g a))) : FnOk P w K mg base CX0 (k + 1) f fd ps (spD K pre args g) := by
  refine F.ok S (fun vs H Q E h => ?_) (fun cdv A outer s H vs Q E hr h => ?_)
  · obtain ⟨R, a, _, _, hd, _⟩ := h
    rw [hd.length, len]
  · obtain ⟨R, a, hp, m, hd, q⟩ := h
    obtain ⟨t, ht, hs⟩ := hbody cdv A outer s H E hr
    refine ⟨t, ht, hs a hp [] R H _ m ⟨fun O H' σ' ρ' g' e => q _ _ g'.h00 (by rw [e]; exact .non), fun O H' σ' ρ' v r g' hr' e => ?_, fun _ _ _ _ _ z => z.elim, fun _ _ _ _ _ z => z.elim⟩ [] H _ (entry_sg N m hd)⟩
    subst e
    exact q v H' g'.h00 hr'
theorem okL {g : α → List D} (F : Fun K x qual st f fd) (S : FnScope N ps (defScope st)) (len : ∀ a, (args a).length = ps.length)
    (hbody : ∀ (cdv : Value) (A : Around) (outer : List Env) (s : Shared) (H : Hp) (E : XK), Room k (A.deeper (PyProof.Rows.envOfC qual (defScope st) s.heap.objs.size f cdv)) →
      ∃ t, PSs (cxOf CX0 P w K mg base N qual (defScope st) f cdv A outer s H E).nox (defBody st) t ∧ ∀ a, pre a → SD K t (entry N.length (args a)) (retL (g a))) : FnOk P w K mg base CX0 (k + 1) f fd ps (spL K pre args g) := by
  refine F.ok S (fun vs H Q E h => ?_) (fun cdv A outer s H vs Q E hr h => ?_)
  · obtain ⟨R, a, _, _, hd, _⟩ := h
    rw [hd.length, len]
  · obtain ⟨R, a, hp, m, hd, q⟩ := h
    obtain ⟨t, ht, hs⟩ := hbody cdv A outer s H E hr
    refine ⟨t, ht, hs a hp [] R H _ m ⟨fun _ _ _ _ _ z => z.elim, fun O H' σ' ρ' v r g' hr' e => ?_, fun _ _ _ _ _ z => z.elim, fun _ _ _ _ _ z => z.elim⟩ [] H _ (entry_sg N m hd)⟩
    subst e
    obtain ⟨p, vs, rfl, h2, h3, h4⟩ := hr'
    exact q p vs H' g'.h00 h2 h3 h4
end
end CJ

set_option Elab.async false
set_option linter.all false
set_option maxRecDepth 100000
set_option maxHeartbeats 4000000
/-! Rules by values for data: ==, <, in, min, max, sorted; the joined rules for +, *, [], slices, what is walked. -/
namespace CJ
open PySem L2 PySem.Spec PyProof.Rows
section
variable {X : Cx}
/-! ### comparisons -/
def rEqP (K : PySem.W.Frag) : R2 := fun x y H Q => ∃ d e, Dp K H x d ∧ Dp K H y e ∧ d.plain = true ∧ e.plain = true ∧ min d.depth e.depth ≤ 60 ∧ Q (.bl (PyData.eqv d e)) H
def rNeP (K : PySem.W.Frag) : R2 := fun x y H Q => ∃ d e, Dp K H x d ∧ Dp K H y e ∧ d.plain = true ∧ e.plain = true ∧ min d.depth e.depth ≤ 60 ∧ Q (.bl (!PyData.eqv d e)) H
theorem op_eqP (hu : X.A.units + 64 < cLine) : OpR X (compareOp .Eq) (rEqP X.K) := by
  intro pins s σ H x y v u Q I rx ry h
  obtain ⟨d, e, hd, he, pd, pe, hz, q⟩ := h
  obtain ⟨as, ra⟩ := Dp.reads I d x v hd rx
  obtain ⟨bs, rb⟩ := Dp.reads I e y u he ry
  exact SeqAt.eq_plain ra rb pd pe (by omega) ⟨.bl _, H, I, rfl, q⟩
theorem op_neP (hu : X.A.units + 64 < cLine) : OpR X (compareOp .NotEq) (rNeP X.K) := by
  intro pins s σ H x y v u Q I rx ry h
  obtain ⟨d, e, hd, he, pd, pe, hz, q⟩ := h
  obtain ⟨as, ra⟩ := Dp.reads I d x v hd rx
  obtain ⟨bs, rb⟩ := Dp.reads I e y u he ry
  exact SeqAt.ne_plain ra rb pd pe (by omega) ⟨.bl _, H, I, rfl, q⟩
def rLtP (K : PySem.W.Frag) : R2 := fun x y H Q => ∃ d e, Dp K H x d ∧ Dp K H y e ∧ PySem.W.alike d e = true ∧ d ≠ .none ∧ min d.depth e.depth ≤ 60 ∧ Q (.bl (PySem.W.dataLt d e)) H
def rGtP (K : PySem.W.Frag) : R2 := fun x y H Q => ∃ d e, Dp K H x d ∧ Dp K H y e ∧ PySem.W.alike d e = true ∧ d ≠ .none ∧ min d.depth e.depth ≤ 60 ∧ Q (.bl (PySem.W.dataLt e d)) H
def rLeP (K : PySem.W.Frag) : R2 := fun x y H Q => ∃ d e, Dp K H x d ∧ Dp K H y e ∧ PySem.W.alike d e = true ∧ d ≠ .none ∧ min d.depth e.depth ≤ 60 ∧ Q (.bl (!PySem.W.dataLt e d)) H
def rGeP (K : PySem.W.Frag) : R2 := fun x y H Q => ∃ d e, Dp K H x d ∧ Dp K H y e ∧ PySem.W.alike d e = true ∧ d ≠ .none ∧ min d.depth e.depth ≤ 60 ∧ Q (.bl (!PySem.W.dataLt d e)) H
theorem op_ltP (hu : X.A.units + 64 < cLine) : OpR X (compareOp .Lt) (rLtP X.K) := by
  intro pins s σ H x y v u Q I rx ry h
  obtain ⟨d, e, hd, he, pd, pe, hz, q⟩ := h
  obtain ⟨as, ra⟩ := Dp.reads I d x v hd rx
  obtain ⟨bs, rb⟩ := Dp.reads I e y u he ry
  exact PySem.W.lt_data ra rb pd pe (by omega) ⟨.bl _, H, I, rfl, q⟩
theorem op_gtP (hu : X.A.units + 64 < cLine) : OpR X (compareOp .Gt) (rGtP X.K) := by
  intro pins s σ H x y v u Q I rx ry h
  obtain ⟨d, e, hd, he, pd, pe, hz, q⟩ := h
  obtain ⟨as, ra⟩ := Dp.reads I d x v hd rx
  obtain ⟨bs, rb⟩ := Dp.reads I e y u he ry
  exact PySem.W.gt_data ra rb pd pe (by omega) ⟨.bl _, H, I, rfl, q⟩
theorem op_leP (hu : X.A.units + 64 < cLine) : OpR X (compareOp .LtE) (rLeP X.K) := by
  intro pins s σ H x y v u Q I rx ry h
  obtain ⟨d, e, hd, he, pd, pe, hz, q⟩ := h
  obtain ⟨as, ra⟩ := Dp.reads I d x v hd rx
  obtain ⟨bs, rb⟩ := Dp.reads I e y u he ry
  exact PySem.W.le_data ra rb pd pe (by omega) ⟨.bl _, H, I, rfl, q⟩
theorem op_geP (hu : X.A.units + 64 < cLine) : OpR X (compareOp .GtE) (rGeP X.K) := by
  intro pins s σ H x y v u Q I rx ry h
  obtain ⟨d, e, hd, he, pd, pe, hz, q⟩ := h
  obtain ⟨as, ra⟩ := Dp.reads I d x v hd rx
  obtain ⟨bs, rb⟩ := Dp.reads I e y u he ry
  exact PySem.W.ge_data ra rb pd pe (by omega) ⟨.bl _, H, I, rfl, q⟩
/-- d in c, c a list or a tuple of data -/
def rInP (K : PySem.W.Frag) (neg : Bool) : R2 := fun x y H Q => ∃ d ds, Dp K H x d ∧ (Dp K H y (.list ds) ∨ Dp K H y (.tuple ds)) ∧ d.plain = true ∧ PyData.plainAll ds = true ∧ d.depth ≤ 60 ∧
  Q (.bl (if neg then !(ds.any fun z => PyData.eqv z d) else ds.any fun z => PyData.eqv z d)) H
theorem op_inP (hu : X.A.units + 64 < cLine) : OpR X (compareOp .In) (rInP X.K false) := by
  intro pins s σ H x y v u Q I rx ry h
  obtain ⟨d, ds, hd, he, pd, pe, hz, q⟩ := h
  obtain ⟨as, ra⟩ := Dp.reads I d x v hd rx
  have hm : X.A.units + 1 + min (PyData.depthAll ds) d.depth < cLine := by omega
  rcases he with he | he
  · obtain ⟨bs, rb⟩ := Dp.reads I _ y u he ry
    exact SeqAt.in_list_data rb ra pe pd hm ⟨.bl _, H, I, rfl, q⟩
  · obtain ⟨bs, rb⟩ := Dp.reads I _ y u he ry
    exact SeqAt.in_tuple_data rb ra pe pd hm ⟨.bl _, H, I, rfl, q⟩
theorem op_notInP (hu : X.A.units + 64 < cLine) : OpR X (compareOp .NotIn) (rInP X.K true) := by
  intro pins s σ H x y v u Q I rx ry h
  obtain ⟨d, ds, hd, he, pd, pe, hz, q⟩ := h
  obtain ⟨as, ra⟩ := Dp.reads I d x v hd rx
  have hm : X.A.units + 1 + min (PyData.depthAll ds) d.depth < cLine := by omega
  rcases he with he | he
  · obtain ⟨bs, rb⟩ := Dp.reads I _ y u he ry
    exact SeqAt.notIn_list_data rb ra pe pd hm ⟨.bl _, H, I, rfl, q⟩
  · obtain ⟨bs, rb⟩ := Dp.reads I _ y u he ry
    exact SeqAt.notIn_tuple_data rb ra pe pd hm ⟨.bl _, H, I, rfl, q⟩

/-! ### + of whole numbers, texts, lists, tuples; * of whole numbers, of a text, of a list -/
def rStrCat : R2 := fun x y H Q => ∃ i j, x = .str i ∧ y = .str j ∧ i.length + j.length ≤ sizeLine ∧ Q (.str (i ++ j)) H
def rCatR (K : PySem.W.Frag) : R2 := fun x y H Q => ∃ l b xs zs, x = .ref l ∧ y = .ref b ∧ SqL K H l xs ∧ SqL K H b zs ∧ xs.length + zs.length ≤ sizeLine ∧ ∀ p, H p = none → Q (.ref p) (upd H p (.lst (xs ++ zs)))
theorem rd_list {P : Program} {w : World} {H : Hp} {h : Heap} {a : Addr} {xs : List V} (ok : HOk P w H h) (r : Rd H a (.lst xs)) : xs.length ≤ sizeLine ∧ ∃ (its : List Value) (n : Nat), Vals xs its ∧ h.get? a = some { cls := .type "list", data := .seq its.toArray n } := r.ok ok
theorem op_catR : OpR X (binaryOp .Add) (rCatR X.K) := by
  intro pins s σ H x y v u Q I rx ry h
  obtain ⟨l, b, xs, zs, rfl, rfl, hH, hB, hz, q⟩ := h
  cases rx
  cases ry
  obtain ⟨its, r, ⟨⟨cls, dd, data, sl⟩, n, ho, hc, _, hd⟩, _⟩ := I.list hH
  obtain ⟨its2, r2, ⟨⟨cls2, dd2, data2, sl2⟩, n2, ho2, hc2, _, hd2⟩, _⟩ := I.list hB
  simp only at hc hd hc2 hd2
  subst hc hd hc2 hd2
  have h1 := r.length
  have h2 := r2.length
  refine concat_meets ⟨_, ho, rfl⟩ ⟨_, ho2, rfl⟩ noFill_list_add seq_list_add PySem.F.slot_list_add PySem.F.entry_list_add (PySem.F.args_list_add_2 _ _) (PyProof.Rows.list_addW l b its.toArray its2.toArray n n2 dd dd2 sl sl2 (by rw [List.size_toArray, List.size_toArray]; omega)) ⟨ho, ho2, ?_⟩
  rw [show its.toArray ++ its2.toArray = (its ++ its2).toArray by simp]
  have hl : (xs ++ zs).length ≤ sizeLine := by rw [List.length_append]; exact hz
  refine ⟨.ref s.heap.objs.size, upd H s.heap.objs.size (.lst (xs ++ zs)), I.laid (t' := s.toks) (fun c o eo => Heap.get?_push_of_some _ eo) (Nat.le_refl _) ?_, rfl, q _ (I.hok.fresh (Nat.le_refl _))⟩
  exact ⟨hl, its ++ its2, _, r.append r2, Heap.get?_push_size _ rfl⟩
def rAddA (K : PySem.W.Frag) : R2 := fun x y H Q => rI0 (fun i j => .int (i + j)) x y H Q ∨ rStrCat x y H Q ∨ rCatR K x y H Q ∨ rCatA K x y H Q
theorem op_addA : OpR X (binaryOp .Add) (rAddA X.K) := OpR.or op_add (OpR.or op_add_str (OpR.or op_catR op_catA))
/-- a list times a whole number, the list read -/
def rRepR : R2 := fun x y H Q => ∃ l k xs, x = .ref l ∧ y = .int k ∧ H l = some (.lst xs) ∧ -(2 ^ 63) ≤ k ∧ k < 2 ^ 63 ∧ xs.length * k.toNat ≤ sizeLine ∧ ∀ p, H p = none → Q (.ref p) (upd H p (.lst (List.replicate k.toNat xs).flatten))
theorem op_repR : OpR X (binaryOp .Mult) rRepR := op_rep
/-- a short text times a whole number of 2 and more -/
def repS (z : Str) (k : Int) : Str := if z.length == 0 then z else ⟨(List.replicate k.toNat z.cps).foldl (· ++ ·) #[]⟩
theorem rep_size (a : Array Nat) : ∀ (n : Nat) (b : Array Nat), ((List.replicate n a).foldl (· ++ ·) b).size = b.size + n * a.size
  | 0, b => by simp
  | n + 1, b => by
    rw [List.replicate_succ, List.foldl_cons, rep_size a n (b ++ a), Array.size_append, Nat.succ_mul]
    omega
theorem repS_len {z : Str} {k : Int} (hk : 1 ≤ k) : (repS z k).length = k.toNat * z.length := by
  unfold repS
  by_cases h0 : (z.length == 0) = true
  · rw [if_pos h0]
    have : z.length = 0 := by simpa using h0
    rw [this, Nat.mul_zero]
  · rw [if_neg h0]
    show ((List.replicate k.toNat z.cps).foldl (· ++ ·) #[]).size = _
    rw [rep_size]
    show 0 + k.toNat * z.cps.size = k.toNat * z.cps.size
    omega
def rRepS : R2 := fun x y H Q => ∃ z k, x = .str z ∧ y = .int k ∧ 2 ≤ k ∧ k ≤ 64 ∧ z.length ≤ 64 ∧ Q (.str (repS z k)) H
theorem op_repS : OpR X (binaryOp .Mult) rRepS := by
  intro pins s σ H x y v u Q I rx ry h
  obtain ⟨z, k, rfl, rfl, h2, h64, hz, q⟩ := h
  obtain ⟨t, rfl⟩ := rx
  obtain ⟨t', rfl⟩ := ry
  have hk : k.toNat ≤ 64 := by omega
  have hmul : z.length * k.toNat ≤ 64 * 64 := Nat.mul_le_mul hz hk
  refine PySem.P.mul_str ?_ (fun _ _ hc => ?_) (fun _ _ => ?_) ?_
  · rw [decide_eq_false (by omega), decide_eq_false (by omega)]
    rfl
  · have : (z.length : Int) ≤ 64 := by omega
    have h3 : (64 : Int) ≤ (2 ^ 63 - 1) / k := Int.le_ediv_of_mul_le (by omega) (by omega)
    omega
  · have hsl := sizeLine_eq
    show decide _ = false
    apply decide_eq_false
    omega
  · rw [if_neg (by omega)]
    have n1 : (k == 1) = false := by
      rw [beq_eq_false_iff_ne]
      omega
    rw [n1, Bool.false_or]
    unfold repS at q
    by_cases h0 : (z.length == 0) = true
    · rw [if_pos h0]
      rw [if_pos h0] at q
      exact ⟨.str z, H, I, ⟨_, rfl⟩, q⟩
    · rw [if_neg h0]
      rw [if_neg h0] at q
      refine ⟨?_, .str _, H, I.tok _, ⟨_, rfl⟩, q⟩
      have hsl := sizeLine_eq
      show ((List.replicate k.toNat z.cps).foldl (· ++ ·) #[]).size ≤ sizeLine
      rw [rep_size]
      have : k.toNat * z.cps.size ≤ 64 * 64 := Nat.mul_le_mul hk hz
      show 0 + _ ≤ _
      omega
def rMulA : R2 := fun x y H Q => rI CMul (fun i j => .int (i * j)) x y H Q ∨ rRepR x y H Q ∨ rRepS x y H Q
theorem op_mulA : OpR X (binaryOp .Mult) rMulA := OpR.or op_mul (OpR.or op_repR op_repS)

/-! ### slices of a list, a tuple, a text; what is walked: a list, a tuple, a text -/
def rSlAny (K : PySem.W.Frag) : V → Option Int → Option Int → Hp → VK → Prop := fun x lo hi H Q => rSlL K x lo hi H Q ∨ rSlA K x lo hi H Q ∨ rSlS x lo hi H Q
theorem sl_any : SlR X (rSlAny X.K) := SlR.or sl_list (SlR.or sl_tupA sl_str)
def iAny (K : PySem.W.Frag) (tl : TE) : TI := fun σ H R => tl σ H fun x H1 => (∃ a, x = .ref a ∧ (∃ xs, SqL K H1 a xs) ∧ R (Itl K a) H1) ∨ (∃ a, x = .ref a ∧ (∃ xs, SqT K H1 a xs) ∧ R (Itt K a) H1) ∨ ∃ z, x = .str z ∧ R (Its z) H1
theorem pi_any {tg l : Expr} {tl : TE} (hl : PE X l tl) : PI X tg l (iAny X.K tl) := by
  refine ⟨fun pins s σ H R I h => ?_⟩
  refine thn (hl.run pins s σ H _ I h) fun v s1 ⟨x, H1, I1, r1, q1⟩ => ?_
  rcases q1 with ⟨a, rfl, ⟨xs, hq⟩, q⟩ | ⟨a, rfl, ⟨xs, hq⟩, q⟩ | ⟨z, rfl, q⟩
  · cases r1
    obtain ⟨its, rv, p, hz⟩ := I1.list hq
    refine wpAny_pyIter_list p.isList ⟨s1.heap.objs.size, [s1.heap.objs.size], _, _, H1, rfl, I1.kept (t' := s1.toks) (fun b o eo => Heap.get?_push_of_some _ eo), turn_list a _, ⟨_, Heap.get?_push_size _ rfl, rfl, rfl⟩, fun b hb => ?_, q⟩
    cases List.mem_singleton.mp hb
    exact I1.fpOk (Nat.le_refl _) (I1.hok.fresh (Nat.le_refl _))
  · cases r1
    obtain ⟨its, rv, p, hz⟩ := I1.tuple hq
    refine wpAny_pyIter_tuple (show s1.heap.IsTuple a its.toArray from p) ⟨s1.heap.objs.size, [s1.heap.objs.size], _, _, H1, rfl, I1.kept (t' := s1.toks) (fun b o eo => Heap.get?_push_of_some _ eo), turn_tuple a _, ⟨_, Heap.get?_push_size _ rfl, rfl, rfl⟩, fun b hb => ?_, q⟩
    cases List.mem_singleton.mp hb
    exact I1.fpOk (Nat.le_refl _) (I1.hok.fresh (Nat.le_refl _))
  · obtain ⟨t, rfl⟩ := r1
    cases ha : z.cps.all (· < 128) with
    | false => exact wpAny_pyIter_wide ha (pi_one (tk := s1.toks) I1 _ (turn_str _ z t "str_iterator" (.inr rfl)) ⟨_, Heap.get?_push_size _ rfl, rfl, rfl⟩ q)
    | true => exact wpAny_pyIter_ascii ha (pi_one (tk := s1.toks) I1 _ (turn_str _ z t "str_ascii_iterator" (.inl rfl)) ⟨_, Heap.get?_push_size _ rfl, rfl, rfl⟩ q)
end

/-! ### what values read as -/
section
variable {X : Cx} {pins : List (Addr × Obj)} {σ : L2.St} {H : Hp} {s : Shared}
theorem dpAll_at {K : PySem.W.Frag} : ∀ {vs : List V} {ds : List D} {i : Nat} {v : V}, DpAll K H vs ds → vs[i]? = some v → ∃ d, ds[i]? = some d ∧ Dp K H v d
  | _, _, _, _, .nil, e => by simp at e
  | _, _, 0, _, .cons h _, e => by
    simp at e
    subst e
    exact ⟨_, rfl, h⟩
  | _, _, i + 1, v, .cons _ t, e => by
    obtain ⟨d, h1, h2⟩ := dpAll_at (i := i) (v := v) t (by simpa using e)
    exact ⟨d, by simpa using h1, h2⟩
theorem dpAll_length {K : PySem.W.Frag} : ∀ {vs : List V} {ds : List D}, DpAll K H vs ds → vs.length = ds.length
  | _, _, .nil => rfl
  | _, _, .cons _ t => by rw [List.length_cons, List.length_cons, dpAll_length t]
mutual
theorem dp_plain {K : PySem.W.Frag} : ∀ {v : V} {d : D}, Dp K H v d → d.plain = true
  | _, _, .non => rfl
  | _, _, .bl _ => rfl
  | _, _, .int _ => rfl
  | _, _, .str _ => rfl
  | _, _, .lst _ t => by
    simp only [PyData.plain]
    exact dpAll_plain t
  | _, _, .tup _ t => by
    simp only [PyData.plain]
    exact dpAll_plain t
theorem dpAll_plain {K : PySem.W.Frag} : ∀ {vs : List V} {ds : List D}, DpAll K H vs ds → PyData.plainAll ds = true
  | _, _, .nil => rfl
  | _, _, .cons h t => by
    rw [plainL_cons, dp_plain h, dpAll_plain t]
    rfl
end
/-- what stands in a model's list, told as values -/
theorem each_of_dp (I : Inv X pins σ H s) : ∀ {vs : List V} {us : List Value} {ds : List D}, DpAll X.K H vs ds → Vals vs us → PySem.W.EachIs (fun u d => ∃ v, RelV v u ∧ Dp X.K H v d ∧ ∃ as, Reads s.heap u d as) us ds
  | _, _, _, .nil, .nil => .nil
  | _, _, _, .cons h t, .cons r q => by
    obtain ⟨as, ra⟩ := Dp.reads I _ _ _ h r
    exact .cons ⟨_, r, h, as, ra⟩ (each_of_dp I t q)
theorem dp_of_each {K : PySem.W.Frag} {h : Heap} : ∀ {us : List Value} {ds : List D}, PySem.W.EachIs (fun u d => ∃ v, RelV v u ∧ Dp K H v d ∧ ∃ as, Reads h u d as) us ds → ∃ vs, Vals vs us ∧ DpAll K H vs ds
  | _, _, .nil => ⟨[], .nil, .nil⟩
  | _, _, .cons ⟨v, r, d, _⟩ t => by
    obtain ⟨vs, r2, d2⟩ := dp_of_each t
    exact ⟨v :: vs, .cons r r2, .cons d d2⟩
end

/-! ### min, max, sorted -/
section
variable {X : Cx}
/-- a list or a tuple of data -/
def SeqD (K : PySem.W.Frag) (H : Hp) (a : Addr) (xs : List V) (ds : List D) : Prop := (SqL K H a xs ∨ SqT K H a xs) ∧ DpAll K H xs ds
def rMinD (K : PySem.W.Frag) : List V → Hp → VK → Prop := fun vs H Q => ∃ (a : Addr) (xs : List V) (d : D) (ds : List D), vs = [.ref a] ∧ SeqD K H a xs (d :: ds) ∧ PySem.W.AlikeAll (d :: ds) ∧ PyData.depthAll (d :: ds) ≤ 60 ∧ ∀ v, v ∈ xs → Dp K H v (PySem.W.minD d ds) → Q v H
theorem cr_minD (hc : X.calm = true) (hu : X.A.units + 64 < cLine) : CallR X (.builtin "min") (rMinD X.K) := by
  intro pins s σ H vs us Q I r h
  obtain ⟨a, xs, d, ds, rfl, ⟨hs, hd⟩, al, hz, q⟩ := h
  rw [Vals.ref1 r]
  have fin : ∀ (its : List Value), Vals xs its → ∀ (as : List Addr), ReadsAll s.heap its (d :: ds) as → ∀ (i : Nat) v h' tk bs, its.toArray[i]? = some v → Reads h' v (PySem.W.minD d ds) bs → (∀ b o, s.heap.get? b = some o → h'.get? b = some o) → EP X pins σ Q v { s with heap := h', toks := tk } := by
    intro its rv as ra i v h' tk bs hv hr k
    have hv' : its[i]? = some v := by simpa using hv
    have hx : ∃ x, xs[i]? = some x := by
      have l := rv.length
      have hi := (List.getElem?_eq_some_iff.mp hv').1
      exact ⟨xs[i]'(by omega), List.getElem?_eq_getElem (by omega)⟩
    obtain ⟨x, hx⟩ := hx
    obtain ⟨u, hu', ru⟩ := rv.get hx
    rw [hv'] at hu'
    cases hu'
    obtain ⟨e, he, hde⟩ := dpAll_at hd hx
    obtain ⟨cs, rc⟩ := Dp.reads I e x v hde ru
    have same : e = PySem.W.minD d ds := SeqAt.plain_unique _ _ _ _ _ (dp_plain hde) (PySem.W.reads_keeps k rc) hr
    exact ⟨x, H, I.kept k, ru, q x (List.mem_of_getElem? hx) (same ▸ hde)⟩
  have hm : X.A.units + 1 + PyData.depthAll (d :: ds) < cLine := by omega
  rcases hs with hs | hs
  · obtain ⟨its, rv, pl, _⟩ := I.list hs
    obtain ⟨as, ra⟩ := Dp.readsAll I _ _ _ hd rv
    exact PySem.W.min_list_data (I.ok.hd hc) pl.isList ra al hm (fin its rv as ra)
  · obtain ⟨its, rv, pl, _⟩ := I.tuple hs
    obtain ⟨as, ra⟩ := Dp.readsAll I _ _ _ hd rv
    exact PySem.W.min_tuple_data (I.ok.hd hc) (show s.heap.IsTuple a its.toArray from pl) ra al hm (fin its rv as ra)
def rSortP (K : PySem.W.Frag) : List V → Hp → VK → Prop := fun vs H Q => ∃ (a : Addr) (xs : List V) (ds : List D), vs = [.ref a] ∧ SqL K H a xs ∧ DpAll K H xs ds ∧ PySem.W.AllAlike ds ∧ PySem.W.Sortable ds ∧ (∀ d ∈ ds, d.depth ≤ 60) ∧
  ∀ p ys, H p = none → DpAll K H ys (ds.mergeSort (PySem.W.dataLe false id)) → Q (.ref p) (upd H p (.lst ys))
theorem cr_sortP (hu : X.A.units + 64 < cLine) : CallR X (.builtin "sorted") (rSortP X.K) := by
  intro pins s σ H vs us Q I r h
  obtain ⟨a, xs, ds, rfl, hs, hd, al, so, hz, q⟩ := h
  rw [Vals.ref1 r]
  obtain ⟨its, rv, pl, hl⟩ := I.list hs
  have ea := each_of_dp I hd rv
  have el : xs.length = ds.length := dpAll_length hd
  have m : ds.map id = ds := List.map_id ds
  refine PySem.W.sorted_data (enc := id) (bs := ds) pl.isList ea (ea.mono fun _ _ ⟨_, _, _, z⟩ => z) (by rw [m]; exact al) (by rw [m]; exact so) (by omega) (fun d hd' => ?_) fun out hlen eo => ?_
  · have := hz d hd'
    show X.A.units + 2 + d.depth < cLine
    omega
  · obtain ⟨ys, r2, d2⟩ := dp_of_each eo
    obtain ⟨c, hc⟩ := sortedAll_at s.heap its out.toArray
    refine ⟨.ref (s.heap.objs.size + 1), upd H (s.heap.objs.size + 1) (.lst ys), I.laid (t' := s.toks) (fun b o eo => sortedAll_old eo) (Nat.le_succ _) ?_, rfl, q _ ys (I.hok.fresh (Nat.le_succ _)) d2⟩
    have l2 := dpAll_length d2
    rw [List.length_mergeSort] at l2
    exact ⟨by omega, out, c, r2, hc⟩
end
end CJ

set_option Elab.async false
set_option linter.all false
set_option maxRecDepth 100000
set_option maxHeartbeats 4000000
/-! min(a, b), max(a, b) of data. -/
namespace CJ
open PySem L2 PySem.Spec PyProof.Rows
section
variable {prog : Program} {w : World} {A : Around} {E : Value → Shared → Prop} {s : Shared} {a b : Value} {x y : D} {as bs : List Addr} {Q : Value → Shared → Prop}
theorem min_two_d (hh : A.handled = none) (ra : Reads s.heap a x as) (rb : Reads s.heap b y bs) (al : PySem.W.AlikeAll [x, y]) (hu : A.units + 1 + PyData.depthAll [x, y] < cLine)
    (h : ∀ h' tk, (∀ c o, s.heap.get? c = some o → h'.get? c = some o) → Q (if PySem.W.dataLt y x = true then b else a) { s with heap := h', toks := tk }) : wpAny (model prog w) A (call (.builtin "min") [a, b]) Q E s := by
  have nm : (toString "min" ++ toString ".loop" : String) = "min.loop" := by decide
  refine call_function_tree PySem.F.kind_min PySem.F.plain_min PySem.F.entry_min (PySem.F.args_min2 _ _) ?_
  have bp : Builtin.Builtins.bindParams "min" ["key", "default"] 0 ⟨[], []⟩ = pure [none, none] := rfl
  show wpAny _ A.in1 (Builtin.Builtins.bindParams "min" ["key", "default"] 0 ⟨[], []⟩ >>= _) _ _ _
  refine wpAny_bind (wpAny_of_eq bp ?_)
  show wpAny _ A.in1 (newTuple [a, b] >>= _) _ _ _
  refine wpAny_bind (wpAny_newObj_type ?_)
  -- the pair that min makes, walked
  let s1 : Shared := { s with heap := s.heap.push { cls := .type "tuple", data := .seq #[a, b] } }
  have k1 : ∀ c o, s.heap.get? c = some o → s1.heap.get? c = some o := fun c o e => Heap.get?_push_of_some _ e
  have ht : s1.heap.IsTuple s.heap.objs.size #[a, b] := ⟨_, Heap.get?_push_size _ rfl, rfl, 0, rfl⟩
  have hr : ReadsAll s1.heap (#[a, b] : Array Value).toList [x, y] (as ++ (bs ++ [])) := .cons (PySem.W.reads_keeps k1 ra) (.cons (PySem.W.reads_keeps k1 rb) .nil)
  refine wpAny_bind (PySem.W.iter_tupleW (A := A.in1) (s := s1) hh ht fun s2 e2 W st hfp hw hk => ?_)
  refine wpAny_bind (wpAny_newObj_type ?_)
  have nS : s2.heap.objs.size ∉ [s1.heap.objs.size, s.heap.objs.size] := fun hm => Nat.lt_irrefl _ (hfp _ hm)
  rw [nm]
  refine wpAny_pure ⟨plainId_quiet PySem.F.plain_min_loop _, PySem.codeAny_min_loop_firstH W s1.heap hw _ (PySem.W.cmpIn_lt (s := s1) (A := A.in1) hr al hu) s2.heap.objs.size nS (PySem.fresh_in hk) _ (Nat.succ_pos 1) (fun c o e => Heap.get?_push_of_some _ (hk c o e))
    (W.frame 0 s2 _ s2.toks st (Nat.le_refl _) fun c _ o e => Heap.get?_push_of_some _ e) (Heap.get?_push_size _ rfl) fun v s' hP hm => ?_⟩
  obtain ⟨h', tk, rfl, k2⟩ := PySem.W.moved_old e2 rfl (Moved.drop_new (tk := s2.toks) hm (Nat.le_refl _))
  have hv : v = if PySem.W.dataLt y x = true then b else a := by
    by_cases c : PySem.W.dataLt y x = true
    · rw [if_pos c]
      have : argBest (fun i j => PySem.W.dataLt ([x, y].getD i .none) ([x, y].getD j .none)) (2 - 1) = 1 := by
        show (if PySem.W.dataLt y x = true then 1 else 0) = 1
        rw [if_pos c]
      rw [show (#[a, b] : Array Value).size - 1 = 2 - 1 from rfl, this] at hP
      exact (Option.some.inj hP).symm
    · rw [if_neg c]
      have : argBest (fun i j => PySem.W.dataLt ([x, y].getD i .none) ([x, y].getD j .none)) (2 - 1) = 0 := by
        show (if PySem.W.dataLt y x = true then 1 else 0) = 0
        rw [if_neg c]
      rw [show (#[a, b] : Array Value).size - 1 = 2 - 1 from rfl, this] at hP
      exact (Option.some.inj hP).symm
  rw [hv]
  exact h h' tk fun c o e => k2 c o (k1 c o e)
theorem max_two_d (hh : A.handled = none) (ra : Reads s.heap a x as) (rb : Reads s.heap b y bs) (al : PySem.W.AlikeAll [x, y]) (hu : A.units + 1 + PyData.depthAll [x, y] < cLine)
    (h : ∀ h' tk, (∀ c o, s.heap.get? c = some o → h'.get? c = some o) → Q (if PySem.W.dataLt x y = true then b else a) { s with heap := h', toks := tk }) : wpAny (model prog w) A (call (.builtin "max") [a, b]) Q E s := by
  have nm : (toString "max" ++ toString ".loop" : String) = "max.loop" := by decide
  refine call_function_tree PySem.F.kind_max PySem.F.plain_max PySem.F.entry_max (PySem.F.args_max2 _ _) ?_
  have bp : Builtin.Builtins.bindParams "max" ["key", "default"] 0 ⟨[], []⟩ = pure [none, none] := rfl
  show wpAny _ A.in1 (Builtin.Builtins.bindParams "max" ["key", "default"] 0 ⟨[], []⟩ >>= _) _ _ _
  refine wpAny_bind (wpAny_of_eq bp ?_)
  show wpAny _ A.in1 (newTuple [a, b] >>= _) _ _ _
  refine wpAny_bind (wpAny_newObj_type ?_)
  -- the pair that max makes, walked
  let s1 : Shared := { s with heap := s.heap.push { cls := .type "tuple", data := .seq #[a, b] } }
  have k1 : ∀ c o, s.heap.get? c = some o → s1.heap.get? c = some o := fun c o e => Heap.get?_push_of_some _ e
  have ht : s1.heap.IsTuple s.heap.objs.size #[a, b] := ⟨_, Heap.get?_push_size _ rfl, rfl, 0, rfl⟩
  have hr : ReadsAll s1.heap (#[a, b] : Array Value).toList [x, y] (as ++ (bs ++ [])) := .cons (PySem.W.reads_keeps k1 ra) (.cons (PySem.W.reads_keeps k1 rb) .nil)
  refine wpAny_bind (PySem.W.iter_tupleW (A := A.in1) (s := s1) hh ht fun s2 e2 W st hfp hw hk => ?_)
  refine wpAny_bind (wpAny_newObj_type ?_)
  have nS : s2.heap.objs.size ∉ [s1.heap.objs.size, s.heap.objs.size] := fun hm => Nat.lt_irrefl _ (hfp _ hm)
  rw [nm]
  refine wpAny_pure ⟨plainId_quiet PySem.F.plain_max_loop _, PySem.codeAny_max_loop_firstH W s1.heap hw _ (PySem.W.cmpIn_gt (s := s1) (A := A.in1) hr al hu) s2.heap.objs.size nS (PySem.fresh_in hk) _ (Nat.succ_pos 1) (fun c o e => Heap.get?_push_of_some _ (hk c o e))
    (W.frame 0 s2 _ s2.toks st (Nat.le_refl _) fun c _ o e => Heap.get?_push_of_some _ e) (Heap.get?_push_size _ rfl) fun v s' hP hm => ?_⟩
  obtain ⟨h', tk, rfl, k2⟩ := PySem.W.moved_old e2 rfl (Moved.drop_new (tk := s2.toks) hm (Nat.le_refl _))
  have hv : v = if PySem.W.dataLt x y = true then b else a := by
    by_cases c : PySem.W.dataLt x y = true
    · rw [if_pos c]
      have : argBest (fun i j => PySem.W.dataLt ([x, y].getD j .none) ([x, y].getD i .none)) (2 - 1) = 1 := by
        show (if PySem.W.dataLt x y = true then 1 else 0) = 1
        rw [if_pos c]
      rw [show (#[a, b] : Array Value).size - 1 = 2 - 1 from rfl, this] at hP
      exact (Option.some.inj hP).symm
    · rw [if_neg c]
      have : argBest (fun i j => PySem.W.dataLt ([x, y].getD j .none) ([x, y].getD i .none)) (2 - 1) = 0 := by
        show (if PySem.W.dataLt x y = true then 1 else 0) = 0
        rw [if_neg c]
      rw [show (#[a, b] : Array Value).size - 1 = 2 - 1 from rfl, this] at hP
      exact (Option.some.inj hP).symm
  rw [hv]
  exact h h' tk fun c o e => k2 c o (k1 c o e)
end
section
variable {X : Cx}
def rMin2 (K : PySem.W.Frag) : List V → Hp → VK → Prop := fun vs H Q => ∃ (u v : V) (x y : D), vs = [u, v] ∧ Dp K H u x ∧ Dp K H v y ∧ PySem.W.AlikeAll [x, y] ∧ PyData.depthAll [x, y] ≤ 60 ∧ Q (if PySem.W.dataLt y x = true then v else u) H
def rMax2 (K : PySem.W.Frag) : List V → Hp → VK → Prop := fun vs H Q => ∃ (u v : V) (x y : D), vs = [u, v] ∧ Dp K H u x ∧ Dp K H v y ∧ PySem.W.AlikeAll [x, y] ∧ PyData.depthAll [x, y] ≤ 60 ∧ Q (if PySem.W.dataLt x y = true then v else u) H
theorem cr_min2 (hc : X.calm = true) (hu : X.A.units + 64 < cLine) : CallR X (.builtin "min") (rMin2 X.K) := by
  intro pins s σ H vs us Q I r h
  obtain ⟨u, v, x, y, rfl, hx, hy, al, hz, q⟩ := h
  obtain ⟨u1, u2, rfl, r1, r2⟩ := vals2 r
  obtain ⟨as, ra⟩ := Dp.reads I x u u1 hx r1
  obtain ⟨bs, rb⟩ := Dp.reads I y v u2 hy r2
  refine min_two_d (I.ok.hd hc) ra rb al (by omega) fun h' tk k => ⟨_, H, I.kept k, ?_, q⟩
  by_cases c : PySem.W.dataLt y x = true
  · rw [if_pos c, if_pos c]
    exact r2
  · rw [if_neg c, if_neg c]
    exact r1
theorem cr_max2 (hc : X.calm = true) (hu : X.A.units + 64 < cLine) : CallR X (.builtin "max") (rMax2 X.K) := by
  intro pins s σ H vs us Q I r h
  obtain ⟨u, v, x, y, rfl, hx, hy, al, hz, q⟩ := h
  obtain ⟨u1, u2, rfl, r1, r2⟩ := vals2 r
  obtain ⟨as, ra⟩ := Dp.reads I x u u1 hx r1
  obtain ⟨bs, rb⟩ := Dp.reads I y v u2 hy r2
  refine max_two_d (I.ok.hd hc) ra rb al (by omega) fun h' tk k => ⟨_, H, I.kept k, ?_, q⟩
  by_cases c : PySem.W.dataLt x y = true
  · rw [if_pos c, if_pos c]
    exact r2
  · rw [if_neg c, if_neg c]
    exact r1
end
end CJ

set_option Elab.async false
set_option linter.all false
set_option maxRecDepth 100000
set_option maxHeartbeats 4000000
/-! The rules for data, told in data. -/
namespace CJ
open PySem L2
mutual
theorem dv_of_dp {K : PySem.W.Frag} {H : Hp} : ∀ {v : V} {d : D}, pureD d = true → Dp K H v d → Dv K H v d
  | _, _, _, .non => .non
  | _, _, _, .bl b => .bl b
  | _, _, _, .int i => .int i
  | _, _, _, .str x => .str x
  | _, _, n, .lst _ _ => by simp [pureD] at n
  | _, _, n, .tup h t => .tup h (dvAll_of_dp (by simpa [pureD] using n) t)
theorem dvAll_of_dp {K : PySem.W.Frag} {H : Hp} : ∀ {vs : List V} {ds : List D}, pureL ds = true → DpAll K H vs ds → DvAll K H vs ds
  | _, _, _, .nil => .nil
  | _, _, n, .cons h t => by
    rw [pureL_cons, Bool.and_eq_true] at n
    exact .cons (dv_of_dp n.1 h) (dvAll_of_dp n.2 t)
end
/-! ### names for the readings of built-ins -/
abbrev rInSign : R2 := fun x y H Q => ∃ (c : Nat) (z : Str), x = .str ⟨#[c]⟩ ∧ y = .str z ∧ Q (.bl (decide (c ∈ z.cps.toList))) H
abbrev rNotInSign : R2 := fun x y H Q => ∃ (c : Nat) (z : Str), x = .str ⟨#[c]⟩ ∧ y = .str z ∧ Q (.bl (!decide (c ∈ z.cps.toList))) H
abbrev rInA (K : PySem.W.Frag) : R2 := fun x y H Q => rInP K false x y H Q ∨ rInSign x y H Q
abbrev rNotInA (K : PySem.W.Frag) : R2 := fun x y H Q => rInP K true x y H Q ∨ rNotInSign x y H Q
theorem op_inA {X : Cx} (hu : X.A.units + 64 < cLine) : OpR X (compareOp .In) (rInA X.K) := OpR.or (op_inP hu) op_in_sign
theorem op_notInA {X : Cx} (hu : X.A.units + 64 < cLine) : OpR X (compareOp .NotIn) (rNotInA X.K) := OpR.or (op_notInP hu) op_notIn_sign
abbrev rLen (K : PySem.W.Frag) : List V → Hp → VK → Prop := fun xs H Q => ∃ x n, xs = [x] ∧ LenV K x H n ∧ Q (.int n) H
abbrev rInt1 : List V → Hp → VK → Prop := fun xs H Q => (∃ i, xs = [.int i] ∧ Q (.int i) H) ∨ ∃ k, xs = [.bl k] ∧ Q (.int (if k then 1 else 0)) H
abbrev rTupOf (K : PySem.W.Frag) : List V → Hp → VK → Prop := fun xs H Q => ∃ p ys, xs = [.ref p] ∧ ((SqL K H p ys ∧ ∀ l, H l = none → Q (.ref l) (upd H l (.tup ys))) ∨ (SqT K H p ys ∧ Q (.ref p) H))
abbrev rListOf (K : PySem.W.Frag) : List V → Hp → VK → Prop := fun xs H Q => ∃ p ys, xs = [.ref p] ∧ (SqL K H p ys ∨ SqT K H p ys) ∧ ∀ l, H l = none → Q (.ref l) (upd H l (.lst ys))
abbrev rJoin (K : PySem.W.Frag) : V → List V → Hp → VK → Prop := fun x xs H Q => ∃ a p, ∃ ys : List Str, x = .str a ∧ xs = [.ref p] ∧ (SqL K H p (ys.map V.str) ∨ SqT K H p (ys.map V.str)) ∧ (ys.map (·.length)).sum + ys.length * a.length ≤ 16777216 ∧ Q (.str (Txt.join a ys)) H
abbrev rSplit : V → List V → Hp → VK → Prop := fun x xs H Q => ∃ a b, x = .str a ∧ xs = [.str b] ∧ (b.length == 0) = false ∧ a.length + 2 ≤ sizeLine ∧ rNewStrs (Txt.split a b) H Q
abbrev rUpper : V → List V → Hp → VK → Prop := fun x xs H Q => ∃ a, x = .str a ∧ xs = [] ∧ a.length ≤ 5592405 ∧ Q (.str (Txt.upper a)) H
abbrev rInsert : V → List V → Hp → VK → Prop := fun x vs H Q => ∃ (l : Addr) (xs : List V) (i : Int) (y : V), x = .ref l ∧ vs = [.int i, y] ∧ H l = some (.lst xs) ∧ xs.length < sizeLine ∧ 0 ≤ i ∧ i < 2 ^ 63 ∧ Q .non (upd H l (.lst (xs.take i.toNat ++ [y] ++ xs.drop i.toNat)))

section
variable {K : PySem.W.Frag} {G H H' : Hp} {σ : L2.St} {ρ : Rho} {ta tb tc te tx tl : TE} {t u : TT} {d e f : D} {ds es : List D} {r : R2}
/-! ### comparisons -/
theorem rd_eqP (pd : d.plain = true) (pe : e.plain = true) (hz : min d.depth e.depth ≤ 60) : RD K (rEqP K) d e (.bool (PyData.eqv d e)) := fun R H x y m hx hy Q q =>
  ⟨d, e, hx.up.dp pd, hy.up.dp pe, pd, pe, hz, q _ H (Same.refl H) (.bl _)⟩
theorem rd_neP (pd : d.plain = true) (pe : e.plain = true) (hz : min d.depth e.depth ≤ 60) : RD K (rNeP K) d e (.bool (!PyData.eqv d e)) := fun R H x y m hx hy Q q =>
  ⟨d, e, hx.up.dp pd, hy.up.dp pe, pd, pe, hz, q _ H (Same.refl H) (.bl _)⟩
theorem rd_ltP (pd : d.plain = true) (pe : e.plain = true) (al : PySem.W.alike d e = true) (nn : d ≠ .none) (hz : min d.depth e.depth ≤ 60) : RD K (rLtP K) d e (.bool (PySem.W.dataLt d e)) := fun R H x y m hx hy Q q =>
  ⟨d, e, hx.up.dp pd, hy.up.dp pe, al, nn, hz, q _ H (Same.refl H) (.bl _)⟩
theorem rd_gtP (pd : d.plain = true) (pe : e.plain = true) (al : PySem.W.alike d e = true) (nn : d ≠ .none) (hz : min d.depth e.depth ≤ 60) : RD K (rGtP K) d e (.bool (PySem.W.dataLt e d)) := fun R H x y m hx hy Q q =>
  ⟨d, e, hx.up.dp pd, hy.up.dp pe, al, nn, hz, q _ H (Same.refl H) (.bl _)⟩
theorem rd_leP (pd : d.plain = true) (pe : e.plain = true) (al : PySem.W.alike d e = true) (nn : d ≠ .none) (hz : min d.depth e.depth ≤ 60) : RD K (rLeP K) d e (.bool (!PySem.W.dataLt e d)) := fun R H x y m hx hy Q q =>
  ⟨d, e, hx.up.dp pd, hy.up.dp pe, al, nn, hz, q _ H (Same.refl H) (.bl _)⟩
theorem rd_geP (pd : d.plain = true) (pe : e.plain = true) (al : PySem.W.alike d e = true) (nn : d ≠ .none) (hz : min d.depth e.depth ≤ 60) : RD K (rGeP K) d e (.bool (!PySem.W.dataLt d e)) := fun R H x y m hx hy Q q =>
  ⟨d, e, hx.up.dp pd, hy.up.dp pe, al, nn, hz, q _ H (Same.refl H) (.bl _)⟩
theorem rd_eqI {i j : Int} : RD K (rEqP K) (.int i) (.int j) (.bool (i == j)) := by
  have h := rd_eqP (K := K) (d := .int i) (e := .int j) rfl rfl (by simp [PyData.depth])
  simpa only [PyData.eqv] using h
theorem rd_neI {i j : Int} : RD K (rNeP K) (.int i) (.int j) (.bool (!(i == j))) := by
  have h := rd_neP (K := K) (d := .int i) (e := .int j) rfl rfl (by simp [PyData.depth])
  simpa only [PyData.eqv] using h
theorem rd_eqS {i j : Str} : RD K (rEqP K) (.str i) (.str j) (.bool (i == j)) := by
  have h := rd_eqP (K := K) (d := .str i) (e := .str j) rfl rfl (by simp [PyData.depth])
  simpa only [PyData.eqv] using h
theorem rd_neS {i j : Str} : RD K (rNeP K) (.str i) (.str j) (.bool (!(i == j))) := by
  have h := rd_neP (K := K) (d := .str i) (e := .str j) rfl rfl (by simp [PyData.depth])
  simpa only [PyData.eqv] using h
theorem rd_ltI {i j : Int} : RD K (rLtP K) (.int i) (.int j) (.bool (decide (i < j))) := by
  have h := rd_ltP (K := K) (d := .int i) (e := .int j) rfl rfl (by simp [PySem.W.alike]) (by simp) (by simp [PyData.depth])
  rwa [PySem.W.dataLt_int] at h
theorem rd_gtI {i j : Int} : RD K (rGtP K) (.int i) (.int j) (.bool (decide (j < i))) := by
  have h := rd_gtP (K := K) (d := .int i) (e := .int j) rfl rfl (by simp [PySem.W.alike]) (by simp) (by simp [PyData.depth])
  rwa [PySem.W.dataLt_int] at h
theorem rd_leI {i j : Int} : RD K (rLeP K) (.int i) (.int j) (.bool (!decide (j < i))) := by
  have h := rd_leP (K := K) (d := .int i) (e := .int j) rfl rfl (by simp [PySem.W.alike]) (by simp) (by simp [PyData.depth])
  rwa [PySem.W.dataLt_int] at h
theorem rd_geI {i j : Int} : RD K (rGeP K) (.int i) (.int j) (.bool (!decide (i < j))) := by
  have h := rd_geP (K := K) (d := .int i) (e := .int j) rfl rfl (by simp [PySem.W.alike]) (by simp) (by simp [PyData.depth])
  rwa [PySem.W.dataLt_int] at h
theorem rd_ltS {i j : Str} : RD K (rLtP K) (.str i) (.str j) (.bool (decide (i.cps.toList < j.cps.toList))) := by
  have h := rd_ltP (K := K) (d := .str i) (e := .str j) rfl rfl (by simp [PySem.W.alike]) (by simp) (by simp [PyData.depth])
  rwa [PySem.W.dataLt_str] at h
theorem rd_gtS {i j : Str} : RD K (rGtP K) (.str i) (.str j) (.bool (decide (j.cps.toList < i.cps.toList))) := by
  have h := rd_gtP (K := K) (d := .str i) (e := .str j) rfl rfl (by simp [PySem.W.alike]) (by simp) (by simp [PyData.depth])
  rwa [PySem.W.dataLt_str] at h
def anyD (ds : List D) (d : D) : Bool := ds.any fun z => PyData.eqv z d
theorem rd_inL (pd : d.plain = true) (ps : PyData.plainAll ds = true) (hz : d.depth ≤ 60) : RD K (rInA K) d (.list ds) (.bool (anyD ds d)) := fun R H x y m hx hy Q q =>
  .inl ⟨d, ds, hx.up.dp pd, .inl (hy.up.dp (by simpa [PyData.plain] using ps)), pd, ps, hz, q _ H (Same.refl H) (.bl _)⟩
theorem rd_inT (pd : d.plain = true) (ps : PyData.plainAll ds = true) (hz : d.depth ≤ 60) : RD K (rInA K) d (.tuple ds) (.bool (anyD ds d)) := fun R H x y m hx hy Q q =>
  .inl ⟨d, ds, hx.up.dp pd, .inr (hy.up.dp (by simpa [PyData.plain] using ps)), pd, ps, hz, q _ H (Same.refl H) (.bl _)⟩
theorem rd_notInL (pd : d.plain = true) (ps : PyData.plainAll ds = true) (hz : d.depth ≤ 60) : RD K (rNotInA K) d (.list ds) (.bool (!anyD ds d)) := fun R H x y m hx hy Q q =>
  .inl ⟨d, ds, hx.up.dp pd, .inl (hy.up.dp (by simpa [PyData.plain] using ps)), pd, ps, hz, q _ H (Same.refl H) (.bl _)⟩
theorem rd_notInT (pd : d.plain = true) (ps : PyData.plainAll ds = true) (hz : d.depth ≤ 60) : RD K (rNotInA K) d (.tuple ds) (.bool (!anyD ds d)) := fun R H x y m hx hy Q q =>
  .inl ⟨d, ds, hx.up.dp pd, .inr (hy.up.dp (by simpa [PyData.plain] using ps)), pd, ps, hz, q _ H (Same.refl H) (.bl _)⟩
theorem rd_inS {c : Nat} {z : Str} : RD K (rInA K) (.str ⟨#[c]⟩) (.str z) (.bool (decide (c ∈ z.cps.toList))) := fun R H x y m hx hy Q q => by
  cases hx.str_inv
  cases hy.str_inv
  exact .inr ⟨c, z, rfl, rfl, q _ H (Same.refl H) (.bl _)⟩
theorem rd_notInS {c : Nat} {z : Str} : RD K (rNotInA K) (.str ⟨#[c]⟩) (.str z) (.bool (!decide (c ∈ z.cps.toList))) := fun R H x y m hx hy Q q => by
  cases hx.str_inv
  cases hy.str_inv
  exact .inr ⟨c, z, rfl, rfl, q _ H (Same.refl H) (.bl _)⟩
theorem rd_neg {i : Int} (h : ED K ta ρ (.int i)) : ED K (tUn (rU fun i => .int (-i)) ta) ρ (.int (-i)) := fun R σ H m s Q q => h R σ H m s _ fun v H1 e1 d1 => by
  cases d1.int_inv
  exact ⟨i, rfl, q _ H1 e1 (.int _)⟩

/-! ### items, +, * -/
theorem rd_ixL' {i : Int} (h : atI ds i = some d) : RD K (rIx K) (.list ds) (.int i) d := fun R H x y m hx hy Q q => .inl (rd_ixL h R H x y m hx hy Q q)
theorem rd_ixT' {i : Int} (h : atI ds i = some d) : RD K (rIx K) (.tuple ds) (.int i) d := fun R H x y m hx hy Q q => .inr (.inl (rd_ixT h R H x y m hx hy Q q))
theorem rd_ixS' {z : Str} {i : Int} {c : Nat} (hz : z.length ≤ sizeLine) (h : atI z.cps.toList i = some c) : RD K (rIx K) (.str z) (.int i) (.str ⟨#[c]⟩) := fun R H x y m hx hy Q q => .inr (.inr (rd_ixS hz h R H x y m hx hy Q q))
theorem rd_addI {i j : Int} : RD K (rAddA K) (.int i) (.int j) (.int (i + j)) := fun R H x y m hx hy Q q => .inl (rd_add R H x y m hx hy Q q)
theorem rd_addT {x y : Str} (h : x.length + y.length ≤ sizeLine) : RD K (rAddA K) (.str x) (.str y) (.str (x ++ y)) := fun R H v u m hx hy Q q => by
  cases hx.str_inv
  cases hy.str_inv
  exact .inr (.inl ⟨x, y, rfl, rfl, h, q _ H (Same.refl H) (.str _)⟩)
theorem rl_catL (h : ds.length + es.length ≤ sizeLine) : RLd K (rAddA K) (.list ds) (.list es) (ds ++ es) := fun R H x y m hx hy Q q => by
  obtain ⟨a, xs, rfl, ha, da⟩ := hx.list_inv
  obtain ⟨b, ys, rfl, hb, db⟩ := hy.list_inv
  refine .inr (.inr (.inl ⟨a, b, xs, ys, rfl, rfl, SqL.up ha, SqL.up hb, by rw [da.length, db.length]; exact h, fun p hp => ?_⟩))
  exact q p _ _ (Same.upd_new hp) hp upd_same ((da.append db).mono (frozen_upd hp))
theorem rd_catT (h : ds.length + es.length ≤ sizeLine) : RD K (rAddA K) (.tuple ds) (.tuple es) (.tuple (ds ++ es)) := fun R H x y m hx hy Q q => by
  obtain ⟨a, xs, rfl, ha, da⟩ := hx.tup_inv
  obtain ⟨b, ys, rfl, hb, db⟩ := hy.tup_inv
  refine .inr (.inr (.inr ⟨a, b, xs, ys, rfl, rfl, SqT.up ha, SqT.up hb, by rw [da.length, db.length]; exact h, fun e => ?_, fun _ e => ?_, fun _ _ p hp => ?_⟩))
  · subst e
    cases da
    exact q _ H (Same.refl H) hy
  · subst e
    cases db
    rw [List.append_nil] at q
    exact q _ H (Same.refl H) hx
  · have np : p ∉ R := m.used.new hp
    refine q _ _ (Same.upd_new hp) ?_
    rw [hide_upd_ne np]
    exact .tup (SqT.of upd_same) ((da.append db).mono (Same.upd_new (by rw [hide_get np]; exact hp)))
theorem rd_mulI {i j : Int} (h : CMul i j) : RD K rMulA (.int i) (.int j) (.int (i * j)) := fun R H x y m hx hy Q q => .inl (rd_mul h R H x y m hx hy Q q)
theorem rs_strA {z : Str} {lo hi : Option Int} (hz : z.length ≤ sizeLine) : RS K (rSlAny K) (.str z) lo hi (.str (cutS z lo hi)) := fun R H x m hx Q q => .inr (.inr (rs_str (K := K) hz R H x m hx Q q))
theorem rs_tupA {lo hi : Option Int} : RS K (rSlAny K) (.tuple ds) lo hi (.tuple (cutD ds lo hi)) := fun R H x m hx Q q => .inr (.inl (rs_tup R H x m hx Q q))
theorem el_slA {tl th : TO} {lo hi : Option Int} (h : ED K te ρ (.list ds)) (hl : EO K tl ρ lo) (hh : EO K th ρ hi) : EL K (tSl (rSlAny K) te tl th) ρ (cutD ds lo hi) := fun R σ H m s Q q =>
  h R σ H m s _ fun x H1 e1 d1 => hl R σ H1 (m.mono e1) (s.step e1) _ fun H2 e2 => hh R σ H2 ((m.mono e1).mono e2) ((s.step e1).step e2) _ fun H3 e3 => by
    obtain ⟨a, xs, rfl, hs, hd⟩ := (d1.mono (hide_mono (e2.trans e3))).list_inv
    refine .inl ⟨a, xs, rfl, SqL.up hs, fun p hp => ?_⟩
    have e4 := (e1.trans e2).trans e3
    exact q p _ _ (e4.trans (Same.upd_new hp)) (Same.none e4 hp) upd_same ((cutV_dv hd lo hi).mono (frozen_upd hp))

/-! ### what is walked -/
theorem ei_anyL (h : ED K tl ρ (.list ds)) : EI K (iAny K tl) ρ ds := fun R σ H m s Q q => h R σ H m s _ fun v H1 e1 d1 => by
  obtain ⟨a, xs, rfl, hs, hd⟩ := d1.list_inv
  exact .inl ⟨a, rfl, ⟨xs, SqL.up hs⟩, q _ H1 e1 (walk_list hs hd)⟩
theorem ei_anyT (h : ED K tl ρ (.tuple ds)) : EI K (iAny K tl) ρ ds := fun R σ H m s Q q => h R σ H m s _ fun v H1 e1 d1 => by
  obtain ⟨a, xs, rfl, hs, hd⟩ := d1.tup_inv
  exact .inr (.inl ⟨a, rfl, ⟨xs, SqT.up hs⟩, q _ H1 e1 (walk_tup hs hd)⟩)
theorem ei_anyS {z : Str} (h : ED K tl ρ (.str z)) : EI K (iAny K tl) ρ (z.cps.toList.map fun c => .str ⟨#[c]⟩) := fun R σ H m s Q q => h R σ H m s _ fun v H1 e1 d1 => by
  cases d1.str_inv
  exact .inr (.inr ⟨z, rfl, q _ H1 e1 walk_str⟩)

/-! ### calls of built-ins -/
def RC (K : PySem.W.Frag) (r : List V → Hp → VK → Prop) (ds : List D) (f : D) : Prop := ∀ R H vs, Muts R H → DvAll K (hide R H) vs ds → ∀ Q : VK, (∀ v H', Same H H' → Dv K (hide R H') v f → Q v H') → r vs H Q
def RCL (K : PySem.W.Frag) (r : List V → Hp → VK → Prop) (ds fs : List D) : Prop := ∀ R H vs, Muts R H → DvAll K (hide R H) vs ds → ∀ Q : VK, (∀ p xs H', Same H H' → H p = none → H' p = some (.lst xs) → DvAll K (hide (p :: R) H') xs fs → Q (.ref p) H') → r vs H Q
theorem ed_cb {r : List V → Hp → VK → Prop} {t : TA} (h : EA K t ρ ds) (hr : RC K r ds f) : ED K (tCB r t) ρ f := fun R σ H m s Q q =>
  h R σ H m s _ fun vs H1 e1 d1 => hr R H1 vs (m.mono e1) d1 Q fun v H2 e2 d2 => q v H2 (e1.trans e2) d2
theorem el_cb {r : List V → Hp → VK → Prop} {t : TA} {fs : List D} (h : EA K t ρ ds) (hr : RCL K r ds fs) : EL K (tCB r t) ρ fs := fun R σ H m s Q q =>
  h R σ H m s _ fun vs H1 e1 d1 => hr R H1 vs (m.mono e1) d1 Q fun p xs H2 e2 hp hx d2 => q p xs H2 (e1.trans e2) (Same.none e1 hp) hx d2
theorem DvAll.one {v : List V} (h : DvAll K G v [d]) : ∃ u, v = [u] ∧ Dv K G u d := by
  cases h with
  | cons a b =>
    cases b
    exact ⟨_, rfl, a⟩
theorem DvAll.two {v : List V} (h : DvAll K G v [d, e]) : ∃ u w, v = [u, w] ∧ Dv K G u d ∧ Dv K G w e := by
  cases h with
  | cons a b =>
    obtain ⟨w, rfl, c⟩ := b.one
    exact ⟨_, w, rfl, a, c⟩
theorem rc_lenL : RC K (rLen K) [.list ds] (.int (ds.length : Int)) := fun R H vs m h Q q => by
  obtain ⟨u, rfl, hu⟩ := h.one
  obtain ⟨a, xs, rfl, hs, hd⟩ := hu.list_inv
  refine ⟨_, _, rfl, .inl ⟨xs, SqL.up hs, rfl⟩, ?_⟩
  rw [hd.length]
  exact q _ H (Same.refl H) (.int _)
theorem rc_lenT : RC K (rLen K) [.tuple ds] (.int (ds.length : Int)) := fun R H vs m h Q q => by
  obtain ⟨u, rfl, hu⟩ := h.one
  obtain ⟨a, xs, rfl, hs, hd⟩ := hu.tup_inv
  refine ⟨_, _, rfl, .inr ⟨xs, SqT.up hs, rfl⟩, ?_⟩
  rw [hd.length]
  exact q _ H (Same.refl H) (.int _)
theorem rc_lenS {z : Str} (hz : z.length ≤ sizeLine) : RC K (rLen K) [.str z] (.int (z.length : Int)) := fun R H vs m h Q q => by
  obtain ⟨u, rfl, hu⟩ := h.one
  cases hu.str_inv
  exact ⟨_, _, rfl, ⟨hz, rfl⟩, q _ H (Same.refl H) (.int _)⟩
theorem rc_intB {b : Bool} : RC K rInt1 [.bool b] (.int (if b then 1 else 0)) := fun R H vs m h Q q => by
  obtain ⟨u, rfl, hu⟩ := h.one
  cases hu.bool_inv
  exact .inr ⟨b, rfl, q _ H (Same.refl H) (.int _)⟩
theorem rc_all {bs : List Bool} : RC K (rAll K) [.list (bs.map .bool)] (.bool (bs.all id)) := fun R H vs m h Q q => by
  obtain ⟨u, rfl, hu⟩ := h.one
  obtain ⟨a, xs, rfl, hs, hd⟩ := hu.list_inv
  cases Dv.bools_inv hd
  exact ⟨a, bs, rfl, SqL.up hs, q _ H (Same.refl H) (.bl _)⟩
theorem rc_min2 (px : d.plain = true) (py : e.plain = true) (al : PySem.W.AlikeAll [d, e]) (hz : PyData.depthAll [d, e] ≤ 60) : RC K (rMin2 K) [d, e] (if PySem.W.dataLt e d = true then e else d) := fun R H vs m h Q q => by
  obtain ⟨u, w, rfl, hu, hw⟩ := h.two
  refine ⟨u, w, d, e, rfl, hu.up.dp px, hw.up.dp py, al, hz, q _ H (Same.refl H) ?_⟩
  by_cases c : PySem.W.dataLt e d = true
  · rw [if_pos c, if_pos c]
    exact hw
  · rw [if_neg c, if_neg c]
    exact hu
theorem rc_max2 (px : d.plain = true) (py : e.plain = true) (al : PySem.W.AlikeAll [d, e]) (hz : PyData.depthAll [d, e] ≤ 60) : RC K (rMax2 K) [d, e] (if PySem.W.dataLt d e = true then e else d) := fun R H vs m h Q q => by
  obtain ⟨u, w, rfl, hu, hw⟩ := h.two
  refine ⟨u, w, d, e, rfl, hu.up.dp px, hw.up.dp py, al, hz, q _ H (Same.refl H) ?_⟩
  by_cases c : PySem.W.dataLt d e = true
  · rw [if_pos c, if_pos c]
    exact hw
  · rw [if_neg c, if_neg c]
    exact hu
theorem rc_tupL : RC K (rTupOf K) [.list ds] (.tuple ds) := fun R H vs m h Q q => by
  obtain ⟨u, rfl, hu⟩ := h.one
  obtain ⟨a, xs, rfl, hs, hd⟩ := hu.list_inv
  refine ⟨a, xs, rfl, .inl ⟨SqL.up hs, fun p hp => ?_⟩⟩
  have np : p ∉ R := m.used.new hp
  refine q _ _ (Same.upd_new hp) ?_
  rw [hide_upd_ne np]
  exact .tup (SqT.of upd_same) (hd.mono (Same.upd_new (by rw [hide_get np]; exact hp)))
theorem rc_tupT : RC K (rTupOf K) [.tuple ds] (.tuple ds) := fun R H vs m h Q q => by
  obtain ⟨u, rfl, hu⟩ := h.one
  obtain ⟨a, xs, rfl, hs, hd⟩ := hu.tup_inv
  exact ⟨a, xs, rfl, .inr ⟨SqT.up hs, q _ H (Same.refl H) hu⟩⟩
theorem rl_listL : RCL K (rListOf K) [.list ds] ds := fun R H vs m h Q q => by
  obtain ⟨u, rfl, hu⟩ := h.one
  obtain ⟨a, xs, rfl, hs, hd⟩ := hu.list_inv
  exact ⟨a, xs, rfl, .inl (SqL.up hs), fun p hp => q p _ _ (Same.upd_new hp) hp upd_same (hd.mono (frozen_upd hp))⟩
theorem rl_listT : RCL K (rListOf K) [.tuple ds] ds := fun R H vs m h Q q => by
  obtain ⟨u, rfl, hu⟩ := h.one
  obtain ⟨a, xs, rfl, hs, hd⟩ := hu.tup_inv
  exact ⟨a, xs, rfl, .inr (SqT.up hs), fun p hp => q p _ _ (Same.upd_new hp) hp upd_same (hd.mono (frozen_upd hp))⟩
/-- sorted: the data in order -/
def sortD (ds : List D) : List D := ds.mergeSort (PySem.W.dataLe false id)
theorem pure_keep_new {R : List Addr} {p : Addr} {xs : List V} (m : Muts R H) (hp : H p = none) (pu : pureL ds = true) (h : DvAll K H xs ds) : DvAll K (hide (p :: R) (upd H p (.lst xs))) xs ds :=
  (h.keep m.keep pu).mono (frozen_upd hp)
theorem rl_sortP (pu : pureL ds = true) (al : PySem.W.AllAlike ds) (so : PySem.W.Sortable ds) (hz : ∀ d ∈ ds, d.depth ≤ 60) : RCL K (rSortP K) [.list ds] (sortD ds) := fun R H vs m h Q q => by
  obtain ⟨u, rfl, hu⟩ := h.one
  obtain ⟨a, xs, rfl, hs, hd⟩ := hu.list_inv
  have pl := pure_plainL ds pu
  refine ⟨a, xs, ds, rfl, SqL.up hs, (hd.mono hide_sub).dp pl, al, so, hz, fun p ys hp hy => ?_⟩
  have pu' : pureL (sortD ds) = true := by
    rw [pureL_iff] at pu ⊢
    exact fun d hd => pu d ((List.mergeSort_perm ds _).mem_iff.mp hd)
  have hv : DvAll K H ys (sortD ds) := dvAll_of_dp pu' hy
  exact q p _ _ (Same.upd_new hp) hp upd_same ((hv.keep m.keep pu').mono (frozen_upd hp))
theorem rc_minL {fs : List D} (pu : pureL (d :: fs) = true) (al : PySem.W.AlikeAll (d :: fs)) (hz : PyData.depthAll (d :: fs) ≤ 60) : RC K (rMinD K) [.list (d :: fs)] (PySem.W.minD d fs) := fun R H vs m h Q q => by
  obtain ⟨u, rfl, hu⟩ := h.one
  obtain ⟨a, xs, rfl, hs, hd⟩ := hu.list_inv
  refine ⟨a, xs, d, fs, rfl, ⟨.inl (SqL.up hs), (hd.mono hide_sub).dp (pure_plainL _ pu)⟩, al, hz, fun v _ hv => ?_⟩
  have mem : ∀ (l : List D) (a : D), PySem.W.minD a l ∈ a :: l := by
    intro l
    induction l with
    | nil => intro a; exact List.mem_singleton.mpr rfl
    | cons y ys ih =>
      intro a
      show (y :: ys).foldl (fun a y => if PySem.W.dataLt y a then y else a) a ∈ _
      rw [List.foldl_cons]
      have := ih (if PySem.W.dataLt y a then y else a)
      rcases List.mem_cons.mp this with e | e
      · show PySem.W.minD _ ys ∈ _
        rw [e]
        split
        · exact List.mem_cons_of_mem _ List.mem_cons_self
        · exact List.mem_cons_self
      · exact List.mem_cons_of_mem _ (List.mem_cons_of_mem _ e)
  have pm : pureD (PySem.W.minD d fs) = true := pureL_iff.mp pu _ (mem fs d)
  exact q _ H (Same.refl H) ((dv_of_dp pm hv).keep m.keep pm)

/-! ### isinstance -/
def tyN : D → String
  | .none => "NoneType"
  | .bool _ => "bool"
  | .int _ => "int"
  | .str _ => "str"
  | .list _ => "list"
  | .tuple _ => "tuple"
  | .dict _ => "dict"
theorem tyX_of {v : V} (h : Dv K H v d) : TyX K H v (.type (tyN d)) := by
  cases h with
  | non => exact .base .non
  | bl b => exact .base (.bl b)
  | int i => exact .base (.int i)
  | str x => exact .base (.str x)
  | lst h _ =>
    rcases h with (h | ⟨o, h⟩) | ⟨o, its, n, h1, h2, _⟩
    · exact .base (.lst h)
    · exact .base (.frz h)
    · exact .kList h1 h2
  | tup h _ =>
    rcases h with (h | ⟨o, h⟩) | ⟨o, its, n, h1, h2, _⟩
    · exact .base (.tup h)
    · exact .fTuple h
    · exact .kTuple h1 h2
  | dct h => exact .base (.dK h)
/-- is the datum's type T, or under it (of the types that stand in tyN) -/
def isTyN (T n : String) : Bool := n == T || (T == "int" && n == "bool")
def isTy (T : String) (d : D) : Bool := isTyN T (tyN d)
theorem kit_table : ∀ n ∈ ["NoneType", "bool", "int", "str", "list", "tuple", "dict"], ∀ T ∈ ["str", "int", "bool", "tuple", "list"], kitB n T = some (isTyN T n) := by decide +kernel
theorem kit_isTy {T : String} (hT : T ∈ ["str", "int", "bool", "tuple", "list"]) (d : D) : PySem.W.kitOne K (.type (tyN d)) (.type T) = some (isTyN T (tyN d)) :=
  kit_ty (kit_table (tyN d) (by cases d <;> simp [tyN]) T hT)
theorem ed_isi {T : String} (hT : T ∈ ["str", "int", "bool", "tuple", "list"]) (h : ED K te ρ d) : ED K (tCB (rIsi K) (tCons te (tCons (tC (.ty T)) tNil))) ρ (.bool (isTy T d)) := fun R σ H m s Q q =>
  h R σ H m s _ fun v H1 e1 d1 => ⟨v, .ty T, _, _, _, rfl, .ty T, tyX_of d1.up, kit_isTy hT d, q _ H1 e1 (.bl _)⟩
theorem ed_isiB {T : String} {b : Bool} (hT : T ∈ ["str", "int", "bool", "tuple", "list"]) (h : ED K te ρ d) (hb : isTy T d = b := by rfl) : ED K (tCB (rIsi K) (tCons te (tCons (tC (.ty T)) tNil))) ρ (.bool b) := hb ▸ ed_isi hT h
theorem ed_notB {a b : Bool} (h : ED K ta ρ (.bool a)) (hb : (!a) = b := by rfl) : ED K (tNotV ta) ρ (.bool b) := hb ▸ ed_not h
/-- the first is False, the first is True -/
theorem ed_andF (h : ED K ta ρ (.bool false)) : ED K (tAndV ta tb) ρ (.bool false) := ed_and (a := false) (b := true) h fun z => absurd z (by decide)
theorem ed_andT {b : Bool} (h : ED K ta ρ (.bool true)) (h2 : ED K tb ρ (.bool b)) : ED K (tAndV ta tb) ρ (.bool b) := ed_is (ed_and (a := true) h fun _ => h2) (by rw [Bool.true_and])
theorem ed_orT (h : ED K ta ρ (.bool true)) : ED K (tOrV ta tb) ρ (.bool true) := ed_or (a := true) (b := true) h fun z => absurd z (by decide)
theorem ed_orF {b : Bool} (h : ED K ta ρ (.bool false)) (h2 : ED K tb ρ (.bool b)) : ED K (tOrV ta tb) ρ (.bool b) := ed_is (ed_or (a := false) h fun _ => h2) (by rw [Bool.false_or])
theorem et_andF (h : ET K t ρ false) : ET K (tAnd t u) ρ false := et_and (a := false) (b := true) h fun z => absurd z (by decide)
theorem et_andT {b : Bool} (h : ET K t ρ true) (h2 : ET K u ρ b) : ET K (tAnd t u) ρ b := et_is (et_and (a := true) h fun _ => h2) (by rw [Bool.true_and])
theorem et_orT (h : ET K t ρ true) : ET K (tOr t u) ρ true := et_or (a := true) (b := true) h fun z => absurd z (by decide)
theorem et_orF {b : Bool} (h : ET K t ρ false) (h2 : ET K u ρ b) : ET K (tOr t u) ρ b := et_is (et_or (a := false) h fun _ => h2) (by rw [Bool.false_or])
theorem et_notB {a b : Bool} (h : ET K t ρ a) (hb : (!a) = b := by rfl) : ET K (tNot t) ρ b := hb ▸ et_not h
end

/-! ### a def by its promise, in one piece -/
structure Cal (P : Program) (w : World) (K : PySem.W.Frag) (mg : Str → Option Value) (base : Heap) (CX : CXT) (k : Nat) (x : Str) (ps : List Str) (sp : Sp) : Prop where
  ex : ∃ f fd, mg x = some (.ref f) ∧ PySem.W.keepIn K (.ref f) = true ∧ Binds K fd ps [] ∧ FnOk P w K mg base CX k f fd ps sp
section
open PyProof.Rows PySem.Spec
theorem pe_cal {X : Cx} {k : Nat} {x : Str} {ps : List Str} {sp : Sp} {CX : CXT} {E : XK} {p pos : Pos} {e : Expr} {es : List Expr} {t : TA} (C : Cal X.prog X.w X.K X.mg X.base CX k x ps sp) (hr : Room k X.A) (hg : Gl X x) (hx : Passes CX X E) (ha : PA X (e :: es) t)
    (hd : (x == ("__debug__" : Str)) = false := by decide) (he : starEach (e :: es) X.env = (false, eval e X.env) :: starEach es X.env := by rfl) (hp : (backTo pos (starEach es X.env)).any (·.1) = false := by rfl) :
    PE X (.Call (.Name x p) (e :: es) [] pos) (tCall sp [] E t) := by
  obtain ⟨f, fd, h1, h2, h3, h4⟩ := C.ex
  exact pe_call h4 hr hg h1 h2 h3 .nil hx ha hd he hp
end
end CJ

set_option Elab.async false
set_option linter.all false
set_option maxRecDepth 100000
/-! A law's draws: a list that holds one number, of which only is known how many draws are left. -/
namespace CJ
open PySem L2
/-! ### the one cell of a state -/
def noC : Sls → Bool
  | [] => true
  | .cell _ :: _ => false
  | .un :: r => noC r
  | .d _ :: r => noC r
  | .own _ :: r => noC r
def onlyC : Nat → Sls → Bool
  | _, [] => false
  | 0, .cell _ :: r => noC r
  | 0, .un :: _ => false
  | 0, .d _ :: _ => false
  | 0, .own _ :: _ => false
  | _ + 1, .cell _ :: _ => false
  | j + 1, .un :: r => onlyC j r
  | j + 1, .d _ :: r => onlyC j r
  | j + 1, .own _ :: r => onlyC j r
theorem noC_get : ∀ {ρ : Sls}, noC ρ = true → ∀ (i n : Nat), ρ[i]? ≠ some (Sl.cell n)
  | [], _, i, n, q => by simp at q
  | e :: r, h, i, n, q => by
    cases e with
    | cell _ => cases h
    | un => cases i with
      | zero => simp at q
      | succ i => exact noC_get (ρ := r) h i n (by simpa using q)
    | d _ => cases i with
      | zero => simp at q
      | succ i => exact noC_get (ρ := r) h i n (by simpa using q)
    | own _ => cases i with
      | zero => simp at q
      | succ i => exact noC_get (ρ := r) h i n (by simpa using q)
theorem onlyC_at : ∀ {j : Nat} {ρ : Sls}, onlyC j ρ = true → (∃ n, ρ[j]? = some (.cell n)) ∧ ∀ i n, ρ[i]? = some (.cell n) → i = j
  | j, [], h => by cases j <;> cases h
  | 0, .cell n :: r, h => ⟨⟨n, rfl⟩, fun i m q => by
    cases i with
    | zero => rfl
    | succ i => exact (noC_get h i m (by simpa using q)).elim⟩
  | 0, .un :: _, h => by cases h
  | 0, .d _ :: _, h => by cases h
  | 0, .own _ :: _, h => by cases h
  | _ + 1, .cell _ :: _, h => by cases h
  | j + 1, .un :: r, h => by
    obtain ⟨⟨n, a⟩, b⟩ := onlyC_at (j := j) (ρ := r) h
    refine ⟨⟨n, by simpa using a⟩, fun i m q => ?_⟩
    cases i with
    | zero => simp at q
    | succ i => rw [b i m (by simpa using q)]
  | j + 1, .d _ :: r, h => by
    obtain ⟨⟨n, a⟩, b⟩ := onlyC_at (j := j) (ρ := r) h
    refine ⟨⟨n, by simpa using a⟩, fun i m q => ?_⟩
    cases i with
    | zero => simp at q
    | succ i => rw [b i m (by simpa using q)]
  | j + 1, .own _ :: r, h => by
    obtain ⟨⟨n, a⟩, b⟩ := onlyC_at (j := j) (ρ := r) h
    refine ⟨⟨n, by simpa using a⟩, fun i m q => ?_⟩
    cases i with
    | zero => simp at q
    | succ i => rw [b i m (by simpa using q)]
theorem set_self {α : Type} {l : List α} {i : Nat} {x : α} (h : l[i]? = some x) : l.set i x = l := by
  apply List.ext_getElem?
  intro k
  by_cases hk : i = k
  · subst hk
    rw [List.getElem?_set_self (by rw [List.getElem?_eq_some_iff] at h; exact h.1), h]
  · rw [List.getElem?_set_ne hk]
theorem lt_of_onlyC {j : Nat} {ρ : Sls} (h : onlyC j ρ = true) : j < ρ.length := by
  obtain ⟨⟨n, a⟩, _⟩ := onlyC_at h
  rw [List.getElem?_eq_some_iff] at a
  exact a.1
/-- the same of every state that has its one cell there -/
theorem only_cell {j n : Nat} {ρ : Sls} (h : onlyC j ρ = true) : (ρ.set j (.cell n))[j]? = some (.cell n) ∧ ∀ i m, (ρ.set j (.cell n))[i]? = some (.cell m) → i = j ∧ m = n := by
  have hl := lt_of_onlyC h
  refine ⟨List.getElem?_set_self hl, fun i m q => ?_⟩
  by_cases hi : i = j
  · subst hi
    rw [List.getElem?_set_self hl] at q
    injection q with q
    injection q with q
    exact ⟨rfl, q.symm⟩
  · rw [List.getElem?_set_ne (Ne.symm hi)] at q
    exact (hi ((onlyC_at h).2 i m q)).elim
theorem other_get {j n m i : Nat} {ρ : Sls} {e : Sl} (h : onlyC j ρ = true) (q : (ρ.set j (.cell n))[i]? = some e) (he : ∀ k, e ≠ .cell k) : (ρ.set j (.cell m))[i]? = some e := by
  have hl := lt_of_onlyC h
  have hi : j ≠ i := fun z => by
    subst z
    rw [List.getElem?_set_self hl] at q
    injection q with q
    exact he n q.symm
  rw [List.getElem?_set_ne hi] at q ⊢
  exact q
theorem froz_cell {j n : Nat} {ρ : Sls} (h : onlyC j ρ = true) : froz (ρ.set j (.cell n)) = froz ρ := by
  obtain ⟨⟨m, a⟩, _⟩ := onlyC_at h
  show (ρ.set j (.cell n)).map froz1 = ρ.map froz1
  rw [List.map_set]
  exact set_self (by rw [List.getElem?_map, a]; rfl)
theorem allR_cell {j n : Nat} {ρ : Sls} (h : onlyC j ρ = true) : allR (ρ.set j (.cell n)) = allR ρ := by
  obtain ⟨⟨m, a⟩, _⟩ := onlyC_at h
  show (ρ.set j (.cell n)).map allR1 = ρ.map allR1
  rw [List.map_set]
  exact set_self (by rw [List.getElem?_map, a]; rfl)
theorem onlyC_of {j : Nat} {ρ : Sls} (h : ∃ n, ρ[j]? = some (.cell n)) (h2 : ∀ i n, ρ[i]? = some (.cell n) → i = j) : onlyC j ρ = true := by
  have key : ∀ {r : Sls}, (∀ (i n : Nat), r[i]? ≠ some (.cell n)) → noC r = true := by
    intro r
    induction r with
    | nil => intro _; rfl
    | cons e r ih =>
      intro hh
      have := ih fun i n q => hh (i + 1) n (by simpa using q)
      cases e with
      | cell k => exact (hh 0 k rfl).elim
      | un => exact this
      | d _ => exact this
      | own _ => exact this
  induction ρ generalizing j with
  | nil =>
    obtain ⟨n, h⟩ := h
    simp at h
  | cons e r ih =>
    cases j with
    | zero =>
      obtain ⟨n, h⟩ := h
      simp at h
      subst h
      exact key fun i m q => absurd (h2 (i + 1) m (by simpa using q)) (by simp)
    | succ j =>
      have ne : ∀ k, e ≠ .cell k := fun k z => by
        subst z
        exact absurd (h2 0 k rfl) (by simp)
      have := ih (j := j) (by obtain ⟨n, h⟩ := h; exact ⟨n, by simpa using h⟩) fun i n q => by
        have := h2 (i + 1) n (by simpa using q)
        omega
      cases e with
      | cell k => exact (ne k rfl).elim
      | un => exact this
      | d _ => exact this
      | own _ => exact this
theorem onlyC_set {j i : Nat} {ρ : Sls} {e : Sl} (h : onlyC j ρ = true) (hi : i ≠ j) (he : ∀ k, e ≠ .cell k) : onlyC j (ρ.set i e) = true := by
  obtain ⟨⟨n, a⟩, b⟩ := onlyC_at h
  refine onlyC_of ⟨n, by rw [List.getElem?_set_ne hi]; exact a⟩ fun k m q => ?_
  rcases mem_set q with ⟨rfl, e1, _⟩ | ⟨_, q⟩
  · exact (he m e1.symm).elim
  · exact b k m q
theorem onlyC_put {j n : Nat} {ρ : Sls} (h : onlyC j ρ = true) : onlyC j (ρ.set j (.cell n)) = true :=
  onlyC_of ⟨n, (only_cell h).1⟩ fun i m q => ((only_cell h).2 i m q).1

/-! ### what a draw changes -/
def Spd (j : Nat) (σ : L2.St) (H H' : Hp) (n : Nat) : Prop := ∃ A k, σ[j]? = some (some (.ref A)) ∧ Same (hide [A] H) (hide [A] H') ∧ (0 ≤ k ∧ k + (n : Int) ≤ 2 ^ 60) ∧ H' A = some (.lst [.int k])
section
variable {K : PySem.W.Frag} {Z R0 O : List Addr} {H0 H H' H1 H2 : Hp} {σ : L2.St} {ρ : Sls} {E : DE} {ta tb te tl : TE} {t u : TS} {c : TT} {d e : D} {ds es : List D} {j n n' m : Nat}
theorem Spd.trans (a : Spd j σ H H1 n) (b : Spd j σ H1 H2 m) : Spd j σ H H2 m := by
  obtain ⟨A, k, h1, h2, _, _⟩ := a
  obtain ⟨B, k', g1, g2, g3, g4⟩ := b
  cases ref_inj (h1.symm.trans g1)
  exact ⟨A, k', h1, h2.trans g2, g3, g4⟩
theorem Spd.grow (a : Spd j σ H H1 n) (e : Same H1 H2) : Spd j σ H H2 n := by
  obtain ⟨A, k, h1, h2, h3, h4⟩ := a
  exact ⟨A, k, h1, h2.trans (hide_mono e), h3, e _ _ h4⟩
theorem Spd.less (a : Spd j σ H H1 n) (h : n' ≤ n) : Spd j σ H H1 n' := by
  obtain ⟨A, k, h1, h2, h3, h4⟩ := a
  exact ⟨A, k, h1, h2, ⟨h3.1, by omega⟩, h4⟩
/-- a state with one cell at j, of which n draws are left -/
structure Lg (K : PySem.W.Frag) (Z R0 : List Addr) (H0 : Hp) (O : List Addr) (H : Hp) (σ : L2.St) (ρ : Sls) (j n : Nat) : Prop where
  g : Sg K Z R0 H0 O H σ (ρ.set j (.cell n))
  hj : onlyC j ρ = true
theorem Lg.refl (l : Lg K Z R0 H0 O H σ ρ j n) : Spd j σ H H n := by
  obtain ⟨A, k, h1, h2, h3, h4⟩ := l.g.cell j n (only_cell l.hj).1
  exact ⟨A, k, h1, Same.refl _, h3, h4⟩
theorem Lg.keep (l : Lg K Z R0 H0 O H σ ρ j n) (s : Spd j σ H H' m) : Same (hide (O ++ R0) H) (hide (O ++ R0) H') := fun a o h => by
  obtain ⟨A, k, h1, h2, _, _⟩ := s
  obtain ⟨B, _, g1, g2, _⟩ := l.g.cell j n (only_cell l.hj).1
  cases ref_inj (h1.symm.trans g1)
  have hin : a ∉ O ++ R0 := fun z => by
    rw [hide_in z] at h
    cases h
  have na : a ∉ [A] := fun z => by
    cases List.mem_singleton.mp z
    exact hin (List.mem_append_right _ (l.g.zin _ g2))
  rw [hide_get hin] at h ⊢
  have := h2 a o (by rw [hide_get na]; exact h)
  rw [hide_get na] at this
  exact this
theorem Lg.keepZ (l : Lg K Z R0 H0 O H σ ρ j n) (s : Spd j σ H H' m) : Same (hide Z H) (hide Z H') := fun a o h => by
  obtain ⟨A, k, h1, h2, _, _⟩ := s
  obtain ⟨B, _, g1, g2, _⟩ := l.g.cell j n (only_cell l.hj).1
  cases ref_inj (h1.symm.trans g1)
  have hin : a ∉ Z := fun z => by
    rw [hide_in z] at h
    cases h
  have na : a ∉ [A] := fun z => by
    cases List.mem_singleton.mp z
    exact hin g2
  rw [hide_get hin] at h ⊢
  have := h2 a o (by rw [hide_get na]; exact h)
  rw [hide_get na] at this
  exact this
theorem Lg.muts (l : Lg K Z R0 H0 O H σ ρ j n) (s : Spd j σ H H' m) : Muts (O ++ R0) H' := fun a ha => by
  obtain ⟨A, k, h1, h2, _, h4⟩ := s
  by_cases e : a = A
  · subst e
    rw [h4]
    exact ⟨by simp, rfl⟩
  · obtain ⟨p, q⟩ := l.g.muts a ha
    cases hx : H a with
    | none => exact (p hx).elim
    | some o =>
      have na : a ∉ [A] := fun z => e (List.mem_singleton.mp z)
      have := h2 a o (by rw [hide_get na]; exact hx)
      rw [hide_get na] at this
      rw [this]
      rw [hx] at q
      exact ⟨by simp, q⟩
theorem Lg.step (l : Lg K Z R0 H0 O H σ ρ j n) (s : Spd j σ H H' m) : Lg K Z R0 H0 O H' σ ρ j m := by
  refine ⟨⟨?_, l.g.zin, l.muts s, l.g.dis, by rw [l.g.len]; simp, fun i x q => ?_, fun i xs q => ?_, fun i k q => ?_, fun a b xs ys p q1 q2 s1 s2 => ?_⟩, l.hj⟩
  · intro a o h
    have hz : a ∉ Z := fun z => by
      rw [hide_in z] at h
      cases h
    have h1 := l.g.same a o h
    have hO : a ∉ O := fun z => by
      rw [hide_in z] at h1
      cases h1
    rw [hide_get hO] at h1 ⊢
    have := l.keepZ s a o (by rw [hide_get hz]; exact h1)
    rw [hide_get hz] at this
    exact this
  · obtain ⟨v, a, b⟩ := l.g.dat i x (other_get l.hj q fun _ z => nomatch z)
    exact ⟨v, a, b.mono (l.keep s)⟩
  · obtain ⟨p, vs, a, b, c, dd⟩ := l.g.own i xs (other_get l.hj q fun _ z => nomatch z)
    have nz : p ∉ Z := fun z => l.g.dis p b (l.g.zin p z)
    have := l.keepZ s p _ (by rw [hide_get nz]; exact c)
    rw [hide_get nz] at this
    exact ⟨p, vs, a, b, this, dd.mono (l.keep s)⟩
  · obtain ⟨rfl, rfl⟩ := (only_cell l.hj).2 i k q
    obtain ⟨A, k, h1, h2, h3, h4⟩ := s
    obtain ⟨B, _, g1, g2, _⟩ := l.g.cell i n (only_cell l.hj).1
    cases ref_inj (h1.symm.trans g1)
    exact ⟨A, k, h1, g2, h3, h4⟩
  · exact l.g.apart a b xs ys p (other_get l.hj q1 fun _ z => nomatch z) (other_get l.hj q2 fun _ z => nomatch z) s1 s2

/-! ### expressions that draw -/
def LX (K : PySem.W.Frag) (te : TE) (j : Nat) (ρ : Sls) (n : Nat) (C : D → Nat → Prop) : Prop := ∀ Z R0 O H0 H σ, Lg K Z R0 H0 O H σ ρ j n → ∀ Q : VK, (∀ v H' d n', C d n' → Spd j σ H H' n' → Dv K (hide (O ++ R0) H') v d → Q v H') → te σ H Q
def LL (K : PySem.W.Frag) (te : TE) (j : Nat) (ρ : Sls) (n : Nat) (C : List D → Nat → Prop) : Prop := ∀ Z R0 O H0 H σ, Lg K Z R0 H0 O H σ ρ j n → ∀ Q : VK, (∀ p xs H' ds n', C ds n' → Spd j σ H H' n' → H p = none → H' p = some (.lst xs) → DvAll K (hide (p :: (O ++ R0)) H') xs ds → Q (.ref p) H') → te σ H Q
def LT (K : PySem.W.Frag) (tt : TT) (j : Nat) (ρ : Sls) (n : Nat) (C : Bool → Nat → Prop) : Prop := ∀ Z R0 O H0 H σ, Lg K Z R0 H0 O H σ ρ j n → ∀ Q : Bool → Hp → Prop, (∀ b H' n', C b n' → Spd j σ H H' n' → Q b H') → tt σ H Q
def LA (K : PySem.W.Frag) (ta : TA) (j : Nat) (ρ : Sls) (n : Nat) (C : List D → Nat → Prop) : Prop := ∀ Z R0 O H0 H σ, Lg K Z R0 H0 O H σ ρ j n → ∀ Q : List V → Hp → Prop, (∀ vs H' ds n', C ds n' → Spd j σ H H' n' → DvAll K (hide (O ++ R0) H') vs ds → Q vs H') → ta σ H Q
def LI (K : PySem.W.Frag) (wi : TI) (j : Nat) (ρ : Sls) (n : Nat) (C : List D → Nat → Prop) : Prop := ∀ Z R0 O H0 H σ, Lg K Z R0 H0 O H σ ρ j n → ∀ Rr : It → Hp → Prop, (∀ J H' ds n', C ds n' → Spd j σ H H' n' → Walk K J (hide (O ++ R0) H') ds → Rr J H') → wi σ H Rr
theorem Lg.froz (l : Lg K Z R0 H0 O H σ ρ j n) : Sd K (hide (O ++ R0) H) σ (froz ρ) := by
  have := l.g.frozen
  rw [froz_cell l.hj] at this
  exact this
theorem Lg.all (l : Lg K Z R0 H0 O H σ ρ j n) : Sd K (hide R0 H) σ (allR ρ) := by
  have := l.g.seen
  rw [allR_cell l.hj] at this
  exact this
theorem lx_ed {C : D → Nat → Prop} (h : ED K te (froz ρ) d) (c : C d n) : LX K te j ρ n C := fun Z R0 O H0 H σ l Q q =>
  h (O ++ R0) σ H l.g.muts l.froz Q fun v H1 e1 d1 => q v H1 d n c (l.refl.grow e1) d1
theorem lx_edP {C : D → Nat → Prop} (h : ED K te (allR ρ) d) (p : pureD d = true) (c : C d n) : LX K te j ρ n C := fun Z R0 O H0 H σ l Q q =>
  h R0 σ H l.g.m0 l.all Q fun v H1 e1 d1 => q v H1 d n c (l.refl.grow e1) (keep_all (l.g.muts.mono e1) p d1)
theorem lx_weak {C C' : D → Nat → Prop} (h : LX K te j ρ n C) (w : ∀ d n', C d n' → C' d n') : LX K te j ρ n C' := fun Z R0 O H0 H σ l Q q =>
  h Z R0 O H0 H σ l Q fun v H1 d n' c s d1 => q v H1 d n' (w d n' c) s d1
theorem ll_el {C : List D → Nat → Prop} (h : EL K te (froz ρ) ds) (c : C ds n) : LL K te j ρ n C := fun Z R0 O H0 H σ l Q q =>
  h (O ++ R0) σ H l.g.muts l.froz Q fun p xs H1 e1 hp hx d1 => q p xs H1 ds n c (l.refl.grow e1) hp hx d1
theorem LL.lx {C : D → Nat → Prop} (h : LL K te j ρ n fun ds n' => C (.list ds) n') : LX K te j ρ n C := fun Z R0 O H0 H σ l Q q =>
  h Z R0 O H0 H σ l Q fun p xs H1 ds n' c s hp hx d1 => by
    have np : p ∉ O ++ R0 := fun z => by
      have := (l.g.muts p z).1
      exact this hp
    refine q _ H1 _ n' c s (.lst (.inl (.inl ?_)) (d1.mono hide_cons_sub))
    rw [hide_get np]
    exact hx
theorem lt_et {C : Bool → Nat → Prop} {b : Bool} (h : ET K c (allR ρ) b) (hc : C b n) : LT K c j ρ n C := fun Z R0 O H0 H σ l Q q =>
  h R0 σ H l.g.m0 l.all Q fun H1 e1 => q b H1 n hc (l.refl.grow e1)
theorem lt_test {C : Bool → Nat → Prop} (h : LX K te j ρ n fun d n' => ∃ b, d = .bool b ∧ C b n') : LT K (tTest te) j ρ n C := fun Z R0 O H0 H σ l Q q =>
  h Z R0 O H0 H σ l _ fun v H1 d n' ⟨b, e, hc⟩ s d1 => by
    subst e
    cases d1.bool_inv
    exact ⟨b, rfl, q b H1 n' hc s⟩
theorem lt_B {C : Bool → Nat → Prop} (h : LX K te j ρ n fun d n' => ∃ b, d = .bool b ∧ C b n') : LT K (tB te) j ρ n C := fun Z R0 O H0 H σ l Q q =>
  h Z R0 O H0 H σ l _ fun v H1 d n' ⟨b, e, hc⟩ s d1 => by
    subst e
    cases d1.bool_inv
    exact ⟨b, rfl, q b H1 n' hc s⟩
theorem lt_not {C : Bool → Nat → Prop} (h : LT K c j ρ n fun b n' => C (!b) n') : LT K (tNot c) j ρ n C := fun Z R0 O H0 H σ l Q q =>
  h Z R0 O H0 H σ l _ fun b H1 n' hc s => q (!b) H1 n' hc s
theorem la_nil {C : List D → Nat → Prop} (c : C [] n) : LA K tNil j ρ n C := fun Z R0 O H0 H σ l Q q => q [] H [] n c l.refl .nil
theorem la_cons {t : TA} {C : List D → Nat → Prop} (h : LX K te j ρ n fun d n1 => LA K t j ρ n1 fun ds n2 => C (d :: ds) n2) : LA K (tCons te t) j ρ n C := fun Z R0 O H0 H σ l Q q =>
  h Z R0 O H0 H σ l _ fun v H1 d n1 h2 s1 d1 => h2 Z R0 O H0 H1 σ (l.step s1) _ fun vs H2 ds n2 c s2 d2 => q (v :: vs) H2 (d :: ds) n2 c (s1.trans s2) (.cons (d1.mono ((l.step s1).keep s2)) d2)
theorem la_ea {t : TA} {C : List D → Nat → Prop} (h : EA K t (froz ρ) ds) (c : C ds n) : LA K t j ρ n C := fun Z R0 O H0 H σ l Q q =>
  h (O ++ R0) σ H l.g.muts l.froz Q fun v H1 e1 d1 => q v H1 ds n c (l.refl.grow e1) d1
theorem lx_op {r : R2} {C : D → Nat → Prop} (h : LX K ta j ρ n fun a n1 => LX K tb j ρ n1 fun b n2 => ∃ d, RD K r a b d ∧ C d n2) : LX K (tOp r ta tb) j ρ n C := fun Z R0 O H0 H σ l Q q =>
  h Z R0 O H0 H σ l _ fun v H1 a n1 h2 s1 d1 => h2 Z R0 O H0 H1 σ (l.step s1) _ fun w H2 b n2 ⟨d, hr, c⟩ s2 d2 =>
    hr (O ++ R0) H2 v w ((l.step s1).muts s2) (d1.mono ((l.step s1).keep s2)) d2 Q fun u H3 e3 d3 => q u H3 d n2 c ((s1.trans s2).grow e3) d3
theorem ll_op {r : R2} {C : List D → Nat → Prop} (h : LX K ta j ρ n fun a n1 => LX K tb j ρ n1 fun b n2 => ∃ ds, RLd K r a b ds ∧ C ds n2) : LL K (tOp r ta tb) j ρ n C := fun Z R0 O H0 H σ l Q q =>
  h Z R0 O H0 H σ l _ fun v H1 a n1 h2 s1 d1 => h2 Z R0 O H0 H1 σ (l.step s1) _ fun w H2 b n2 ⟨ds, hr, c⟩ s2 d2 =>
    hr (O ++ R0) H2 v w ((l.step s1).muts s2) (d1.mono ((l.step s1).keep s2)) d2 Q fun p xs H3 e3 hp hx d3 => by
      refine q p xs H3 ds n2 c ((s1.trans s2).grow e3) ?_ hx d3
      obtain ⟨A, k, x1, x2, x3, x4⟩ := s1.trans s2
      cases hq : H p with
      | none => rfl
      | some o =>
        by_cases ha : p = A
        · subst ha
          rw [hp] at x4
          cases x4
        · have na : p ∉ [A] := fun z => ha (List.mem_singleton.mp z)
          have := x2 p o (by rw [hide_get na]; exact hq)
          rw [hide_get na, hp] at this
          cases this
theorem Spd.fresh {p : Addr} (s : Spd j σ H H' m) (hp : H' p = none) : H p = none := by
  obtain ⟨A, k, x1, x2, x3, x4⟩ := s
  cases hq : H p with
  | none => rfl
  | some o =>
    by_cases ha : p = A
    · subst ha
      rw [hp] at x4
      cases x4
    · have na : p ∉ [A] := fun z => ha (List.mem_singleton.mp z)
      have := x2 p o (by rw [hide_get na]; exact hq)
      rw [hide_get na, hp] at this
      cases this
theorem lx_tup {t : TA} {C : D → Nat → Prop} (h : LA K t j ρ n fun ds n1 => ds.length ≤ sizeLine ∧ C (.tuple ds) n1) : LX K (tTup t) j ρ n C := fun Z R0 O H0 H σ l Q q =>
  h Z R0 O H0 H σ l _ fun xs H1 ds n1 ⟨hz, c⟩ s1 d1 => ⟨by rw [d1.length]; exact hz, fun p hp => by
    have np : p ∉ O ++ R0 := (l.muts s1).used.new hp
    refine q _ _ _ n1 c (s1.grow (Same.upd_new hp)) ?_
    rw [hide_upd_ne np]
    exact .tup (SqT.of upd_same) (d1.mono (Same.upd_new (by rw [hide_get np]; exact hp)))⟩
theorem ll_lst {t : TA} {C : List D → Nat → Prop} (h : LA K t j ρ n fun ds n1 => ds.length ≤ sizeLine ∧ C ds n1) : LL K (tLst t) j ρ n C := fun Z R0 O H0 H σ l Q q =>
  h Z R0 O H0 H σ l _ fun xs H1 ds n1 ⟨hz, c⟩ s1 d1 => ⟨by rw [d1.length]; exact hz, fun p hp => by
    refine q p xs _ ds n1 c (s1.grow (Same.upd_new hp)) (s1.fresh hp) upd_same ?_
    exact d1.mono (frozen_upd hp)⟩
theorem lx_cb {r : List V → Hp → VK → Prop} {t : TA} {C : D → Nat → Prop} (h : LA K t j ρ n fun ds n1 => ∃ f, RC K r ds f ∧ C f n1) : LX K (tCB r t) j ρ n C := fun Z R0 O H0 H σ l Q q =>
  h Z R0 O H0 H σ l _ fun xs H1 ds n1 ⟨f, hr, c⟩ s1 d1 => hr (O ++ R0) H1 xs (l.muts s1) d1 Q fun v H2 e2 d2 => q v H2 f n1 c (s1.grow e2) d2
theorem ll_cb {r : List V → Hp → VK → Prop} {t : TA} {C : List D → Nat → Prop} (h : LA K t j ρ n fun ds n1 => ∃ f, RCL K r ds f ∧ C f n1) : LL K (tCB r t) j ρ n C := fun Z R0 O H0 H σ l Q q =>
  h Z R0 O H0 H σ l _ fun xs H1 ds n1 ⟨f, hr, c⟩ s1 d1 => hr (O ++ R0) H1 xs (l.muts s1) d1 Q fun p ys H2 e2 hp hx d2 => q p ys H2 f n1 c (s1.grow e2) (s1.fresh hp) hx d2
/-- a method of a text, with one argument -/
theorem lx_m1 {r : V → List V → Hp → VK → Prop} {a : Str} {C : D → Nat → Prop} (ha : ED K ta (froz ρ) (.str a)) (h : LX K tb j ρ n fun b n1 => ∃ f, RD K (fun x y H Q => r x [y] H Q) (.str a) b f ∧ C f n1) : LX K (tM1 r ta tb) j ρ n C := fun Z R0 O H0 H σ l Q q =>
  ha (O ++ R0) σ H l.g.muts l.froz _ fun v H1 e1 d1 => by
    cases d1.str_inv
    have s0 := l.refl.grow e1
    exact ⟨⟨a, rfl⟩, h Z R0 O H0 H1 σ (l.step s0) _ fun w H2 b n1 ⟨f, hr, c⟩ s2 d2 => hr (O ++ R0) H2 _ w ((l.step s0).muts s2) (.str a) d2 Q fun u H3 e3 d3 => q u H3 f n1 c ((s0.trans s2).grow e3) d3⟩
theorem rd_join {a : Str} {ys : List Str} (hz : (ys.map (·.length)).sum + ys.length * a.length ≤ 16777216) : RD K (fun x y H Q => rJoin K x [y] H Q) (.str a) (.list (ys.map .str)) (.str (Txt.join a ys)) := fun R H x y m hx hy Q q => by
  cases hx.str_inv
  obtain ⟨p, xs, rfl, hs, hd⟩ := hy.list_inv
  have := Dv.strs_inv hd
  subst this
  exact ⟨a, p, ys, rfl, rfl, (.inl (SqL.up hs)), hz, q _ H (Same.refl H) (.str _)⟩

/-! ### what is walked -/
theorem li_ei {wi : TI} {C : List D → Nat → Prop} (h : EI K wi (froz ρ) ds) (c : C ds n) : LI K wi j ρ n C := fun Z R0 O H0 H σ l Q q =>
  h (O ++ R0) σ H l.g.muts l.froz Q fun J H1 e1 w => q J H1 ds n c (l.refl.grow e1) w
theorem li_any {C : List D → Nat → Prop} (h : LX K tl j ρ n fun d n1 => ∃ ds, (d = .list ds ∨ d = .tuple ds) ∧ C ds n1) : LI K (iAny K tl) j ρ n C := fun Z R0 O H0 H σ l Q q =>
  h Z R0 O H0 H σ l _ fun v H1 d n1 ⟨ds, e, c⟩ s1 d1 => by
    rcases e with rfl | rfl
    · obtain ⟨a, xs, rfl, hs, hd⟩ := d1.list_inv
      exact .inl ⟨a, rfl, ⟨xs, SqL.up hs⟩, q _ H1 ds n1 c s1 (walk_list hs hd)⟩
    · obtain ⟨a, xs, rfl, hs, hd⟩ := d1.tup_inv
      exact .inr (.inl ⟨a, rfl, ⟨xs, SqT.up hs⟩, q _ H1 ds n1 c s1 (walk_tup hs hd)⟩)
end
end CJ

set_option Elab.async false
set_option linter.all false
set_option maxRecDepth 100000
set_option maxHeartbeats 4000000
/-! A law's draws: promises, comprehensions, statements. -/
namespace CJ
open PySem L2
/-! ### promises of defs that draw: the script, the cell, then data -/
def spN {α : Type} (K : PySem.W.Frag) (pre : α → Prop) (args : α → List D) (cost : α → Nat) (post : α → D → Prop) : Sp := fun vs H Q _ => ∃ (R : List Addr) (A : Addr) (x : α) (cs : List Int) (s : V) (ws : List V) (n : Nat) (k : Int),
  vs = s :: .ref A :: ws ∧ pre x ∧ A ∈ R ∧ Muts R H ∧ cs.length ≤ 63 ∧ Dv K (hide R H) s (.list (cs.map .int)) ∧ DvAll K (hide R H) ws (args x) ∧ cost x ≤ n ∧ (0 ≤ k ∧ k + (n : Int) ≤ 2 ^ 60) ∧ H A = some (.lst [.int k]) ∧
  ∀ v H' d (k' : Int), post x d → Same (hide [A] H) (hide [A] H') → (0 ≤ k' ∧ k' + ((n - cost x : Nat) : Int) ≤ 2 ^ 60) → H' A = some (.lst [.int k']) → Dv K (hide R H') v d → Q v H'
/-- .. a new list -/
def spM {α : Type} (K : PySem.W.Frag) (pre : α → Prop) (args : α → List D) (cost : α → Nat) (post : α → List D → Prop) : Sp := fun vs H Q _ => ∃ (R : List Addr) (A : Addr) (x : α) (cs : List Int) (s : V) (ws : List V) (n : Nat) (k : Int),
  vs = s :: .ref A :: ws ∧ pre x ∧ A ∈ R ∧ Muts R H ∧ cs.length ≤ 63 ∧ Dv K (hide R H) s (.list (cs.map .int)) ∧ DvAll K (hide R H) ws (args x) ∧ cost x ≤ n ∧ (0 ≤ k ∧ k + (n : Int) ≤ 2 ^ 60) ∧ H A = some (.lst [.int k]) ∧
  ∀ p xs H' ds (k' : Int), post x ds → Same (hide [A] H) (hide [A] H') → (0 ≤ k' ∧ k' + ((n - cost x : Nat) : Int) ≤ 2 ^ 60) → H' A = some (.lst [.int k']) → H p = none → H' p = some (.lst xs) → DvAll K (hide (p :: R) H') xs ds → Q (.ref p) H'
section
variable {K : PySem.W.Frag} {Z R0 O : List Addr} {H0 H H' H1 H2 : Hp} {σ σ' : L2.St} {ρ : Sls} {E : DE} {ta tb te tl : TE} {t u : TS} {c : TT} {d e : D} {ds es : List D} {i j n n' m : Nat} {α : Type} {pre : α → Prop} {args : α → List D} {cost : α → Nat}
theorem Lg.addr (l : Lg K Z R0 H0 O H σ ρ j n) : ∃ A k, σ[j]? = some (some (.ref A)) ∧ A ∈ Z ∧ (0 ≤ k ∧ k + (n : Int) ≤ 2 ^ 60) ∧ H A = some (.lst [.int k]) := l.g.cell j n (only_cell l.hj).1
theorem lx_call {post : α → D → Prop} {X : XK} {tr : TA} {C : D → Nat → Prop} (cs : List Int) (hs : (froz ρ)[i]? = some (some (.list (cs.map .int)))) (hc : cs.length ≤ 63)
    (h : LA K tr j ρ n fun ds n1 => ∃ x, pre x ∧ ds = args x ∧ cost x ≤ n1 ∧ ∀ d, post x d → C d (n1 - cost x)) : LX K (tCall (spN K pre args cost post) [] X (tCons (tVar i) (tCons (tVar j) tr))) j ρ n C := fun Z R0 O H0 H σ l Q q => by
  obtain ⟨v, hv, dv⟩ := l.froz.val i _ hs
  obtain ⟨A, k, hA, hz, _, _⟩ := l.addr
  refine ⟨v, hv, .ref A, hA, h Z R0 O H0 H σ l _ fun vs H1 ds n1 ⟨x, hp, e, hn, hq⟩ s1 d1 => ?_⟩
  subst e
  have l1 := l.step s1
  obtain ⟨A', k', hA', _, hk, hH⟩ := l1.addr
  cases ref_inj (hA.symm.trans hA')
  refine ⟨O ++ R0, A, x, cs, v, vs, n1, k', by rw [List.append_nil], hp, List.mem_append_right _ (l.g.zin A hz), l1.g.muts, hc, dv.mono (l.keep s1), d1, hn, hk, hH, fun w H2 d k2 po sm hk2 hH2 dw => ?_⟩
  exact q w H2 d _ (hq d po) (s1.trans ⟨A, k2, hA, sm, hk2, hH2⟩) dw
theorem ll_call {post : α → List D → Prop} {X : XK} {tr : TA} {C : List D → Nat → Prop} (cs : List Int) (hs : (froz ρ)[i]? = some (some (.list (cs.map .int)))) (hc : cs.length ≤ 63)
    (h : LA K tr j ρ n fun ds n1 => ∃ x, pre x ∧ ds = args x ∧ cost x ≤ n1 ∧ ∀ d, post x d → C d (n1 - cost x)) : LL K (tCall (spM K pre args cost post) [] X (tCons (tVar i) (tCons (tVar j) tr))) j ρ n C := fun Z R0 O H0 H σ l Q q => by
  obtain ⟨v, hv, dv⟩ := l.froz.val i _ hs
  obtain ⟨A, k, hA, hz, _, _⟩ := l.addr
  refine ⟨v, hv, .ref A, hA, h Z R0 O H0 H σ l _ fun vs H1 ds n1 ⟨x, hp, e, hn, hq⟩ s1 d1 => ?_⟩
  subst e
  have l1 := l.step s1
  obtain ⟨A', k', hA', _, hk, hH⟩ := l1.addr
  cases ref_inj (hA.symm.trans hA')
  refine ⟨O ++ R0, A, x, cs, v, vs, n1, k', by rw [List.append_nil], hp, List.mem_append_right _ (l.g.zin A hz), l1.g.muts, hc, dv.mono (l.keep s1), d1, hn, hk, hH, fun p xs H2 d k2 po sm hk2 hH2 hn2 hx dw => ?_⟩
  exact q p xs H2 d _ (hq d po) (s1.trans ⟨A, k2, hA, sm, hk2, hH2⟩) (s1.fresh hn2) hx dw

/-! ### comprehensions that draw -/
theorem Spd.st (h : σ[j]? = σ'[j]?) (s : Spd j σ H H' n) : Spd j σ' H H' n := by
  obtain ⟨A, k, h1, h2, h3, h4⟩ := s
  exact ⟨A, k, h ▸ h1, h2, h3, h4⟩
theorem Sg.writeO {p : Addr} {vs : List V} (g : Sg K Z R0 H0 O H σ ρ) (hp : p ∈ O) (ha : ∀ (i : Nat) (xs : List D), ρ[i]? = some (Sl.own xs) → σ[i]? ≠ some (some (V.ref p))) : Sg K Z R0 H0 O (upd H p (.lst vs)) σ ρ := by
  have e1 : hide (O ++ R0) (upd H p (.lst vs)) = hide (O ++ R0) H := hide_upd (List.mem_append_left _ hp)
  have e2 : hide O (upd H p (.lst vs)) = hide O H := hide_upd hp
  refine ⟨by rw [e2]; exact g.same, g.zin, fun b hb => ?_, g.dis, g.len, fun k x q => ?_, fun k zs q => ?_, fun k m q => ?_, g.apart⟩
  · by_cases hbl : b = p
    · subst hbl
      rw [upd_same]
      exact ⟨by simp, rfl⟩
    · rw [upd_ne hbl]
      exact g.muts b hb
  · rw [e1]
    exact g.dat k x q
  · obtain ⟨l, us, a, b, c, dd⟩ := g.own k zs q
    have hl : l ≠ p := fun z => by
      subst z
      exact ha k zs q a
    exact ⟨l, us, a, b, by rw [upd_ne hl]; exact c, by rw [e1]; exact dd⟩
  · obtain ⟨A, k2, a, b, c, dd⟩ := g.cell k m q
    have hl : A ≠ p := fun z => by
      subst z
      exact g.dis A hp (g.zin A b)
    exact ⟨A, k2, a, b, c, by rw [upd_ne hl]; exact dd⟩
theorem ll_lc {wi : TI} {tt : TT} {C : List D → Nat → Prop} (hij : i ≠ j)
    (hi : LI K wi j ρ n fun xs n1 => xs.length < sizeLine ∧ ∃ W : Nat → List D → Nat → Prop, W 0 [] n1 ∧
      (∀ k x acc m, xs[k]? = some x → W k acc m → acc.length ≤ k → LT K tt j (ρ.set i (.d x)) m fun b m1 => if b = true then LX K te j (ρ.set i (.d x)) m1 fun d m2 => W (k + 1) (acc ++ [d]) m2 else W (k + 1) acc m1) ∧
      (∀ acc m, W xs.length acc m → C acc m)) : LL K (tLc wi (gName i) tt te [i]) j ρ n C := fun Z R0 O H0 H σ l Q q => by
  refine hi Z R0 O H0 H σ l _ fun J H1 xs n1 ⟨hz, W, w0, ws, wd⟩ s1 wk => ?_
  intro Dl hD
  have l1 := l.step s1
  obtain ⟨A, kA, hA, hAz, _, hHA⟩ := l1.addr
  have nA : Dl ≠ A := fun z => by
    rw [← z, hD] at hHA
    cases hHA
  have e1 : Same H1 (upd H1 Dl (.lst [])) := Same.upd_new hD
  have fz : Same (hide (O ++ R0) H1) (hide (Dl :: (O ++ R0)) (upd H1 Dl (.lst []))) := frozen_upd hD
  have hji : j ≠ i := Ne.symm hij
  have comm : ∀ (e : Sl) (m : Nat), (ρ.set j (.cell m)).set i e = (ρ.set i e).set j (.cell m) := fun e m => List.set_comm _ _ hji
  have sj : ∀ x : Option V, (σ.set i x)[j]? = σ[j]? := fun x => List.getElem?_set_ne hij
  -- own slots don't stand at Dl
  have ap : ∀ (m k : Nat) (zs : List D), ((ρ.set i Sl.un).set j (Sl.cell m))[k]? = some (Sl.own zs) → (σ.set i none)[k]? ≠ some (some (V.ref Dl)) := fun m k zs hk hs => by
    have hk1 := other_get (onlyC_set l.hj hij (e := .un) fun _ z => nomatch z) hk (m := n1) fun _ z => nomatch z
    rw [← comm] at hk1
    rcases mem_set hk1 with ⟨_, z, _⟩ | ⟨hki, hk2⟩
    · cases z
    · obtain ⟨p, us, a, _, c, _⟩ := l1.g.own k zs hk2
      rw [List.getElem?_set_ne (Ne.symm hki)] at hs
      cases ref_inj (a.symm.trans hs)
      rw [hD] at c
      cases c
  have g0 : Lg K Z R0 H0 (Dl :: O) (upd H1 Dl (.lst [])) (σ.set i none) (ρ.set i .un) j n1 := by
    refine ⟨?_, onlyC_set l.hj hij fun _ z => nomatch z⟩
    have := (l1.g.putL i e1 hD upd_same (ds := []) (vs := []) .nil).drop i none
    rw [List.set_set, List.set_set, comm] at this
    exact this
  refine ⟨fun k mm H2 => mm = xs.length - k ∧ k ≤ xs.length ∧ ∃ accd acc m, W k accd m ∧ accd.length ≤ k ∧ H2 Dl = some (.lst acc) ∧ DvAll K (hide (Dl :: (O ++ R0)) H2) acc accd ∧ Lg K Z R0 H0 (Dl :: O) H2 (σ.set i none) (ρ.set i .un) j m ∧
      Same (hide (O ++ R0) H1) (hide (Dl :: (O ++ R0)) H2) ∧ Spd j σ H1 H2 m,
    ⟨xs.length, by simp, Nat.zero_le _, [], [], n1, w0, Nat.le_refl _, upd_same, .nil, g0, fz, l1.refl.grow e1⟩, ?_⟩
  rintro k mm H2 ⟨rfl, hk, accd, acc, m, w, hl, hacc, dacc, g2, f2, s2⟩
  have lacc := dacc.length
  obtain ⟨wgo, wstop⟩ := wk (Dl :: (O ++ R0)) H2 g2.g.muts f2 k
  by_cases hlt : k < xs.length
  · obtain ⟨go, yld⟩ := wgo _ (List.getElem?_eq_getElem hlt)
    refine .inr ⟨go, fun H' => ∃ accd acc m, W (k + 1) accd m ∧ accd.length ≤ k + 1 ∧ H' Dl = some (.lst acc) ∧ DvAll K (hide (Dl :: (O ++ R0)) H') acc accd ∧ Lg K Z R0 H0 (Dl :: O) H' (σ.set i none) (ρ.set i .un) j m ∧
      Same (hide (O ++ R0) H1) (hide (Dl :: (O ++ R0)) H') ∧ Spd j σ H1 H' m, fun H' hh => ⟨xs.length - (k + 1), by omega, rfl, hlt, hh⟩, fun x H3 y3 => ?_⟩
    obtain ⟨e3, dx⟩ := yld x H3 y3
    have g3 : Lg K Z R0 H0 (Dl :: O) H3 (σ.set i none) (ρ.set i .un) j m := ⟨g2.g.grow e3, g2.hj⟩
    -- the target
    show L2.wipe ((L2.wipe σ [i]).set i (some x)) [i] = L2.wipe σ [i] ∧ _
    refine ⟨wipe_set_in (σ := L2.wipe σ [i]) (i := i) (x := some x) (vs := [i]) (List.mem_cons_self) |>.trans ?_, ?_⟩
    · show ((σ.set i none).set i none) = σ.set i none
      rw [List.set_set]
    have g4 : Lg K Z R0 H0 (Dl :: O) H3 ((σ.set i none).set i (some x)) (ρ.set i (.d xs[k])) j m := by
      refine ⟨?_, onlyC_set l.hj hij fun _ z => nomatch z⟩
      have := g3.g.put i (d := xs[k]) dx
      have e2 : (ρ.set i Sl.un).set i (Sl.d xs[k]) = ρ.set i (Sl.d xs[k]) := List.set_set ..
      rw [List.set_comm _ _ hji, e2] at this
      exact this
    refine ws k xs[k] accd m (List.getElem?_eq_getElem hlt) w hl Z R0 (Dl :: O) H0 H3 _ g4 _ fun b H4 m1 hb s4 => ?_
    have sj4 : ((σ.set i none).set i (some x))[j]? = (σ.set i none)[j]? := List.getElem?_set_ne hij
    have acc_of : ∀ {H5 m5}, Spd j ((σ.set i none).set i (some x)) H3 H5 m5 → H5 Dl = some (.lst acc) := fun {H5 m5} s => by
      obtain ⟨B, _, b1, b2, _, _⟩ := s
      rw [sj4, sj] at b1
      rw [ref_inj (b1.symm.trans hA)] at b2
      have nm : Dl ∉ [A] := fun z => nA (List.mem_singleton.mp z)
      have := b2 Dl _ (by rw [hide_get nm]; exact e3 _ _ hacc)
      rw [hide_get nm] at this
      exact this
    have s23 : Spd j σ H1 H3 m := s2.grow e3
    cases b with
    | false =>
      rw [if_neg Bool.false_ne_true] at hb ⊢
      refine ⟨accd, acc, m1, hb, by omega, acc_of s4, ?_, g3.step (s4.st sj4), ?_, s23.trans (s4.st (sj4.trans (sj none)))⟩
      · exact dacc.mono ((hide_mono e3).trans (g4.keep s4))
      · exact f2.trans ((hide_mono e3).trans (g4.keep s4))
    | true =>
      rw [if_pos rfl] at hb ⊢
      refine hb Z R0 (Dl :: O) H0 H4 _ (g4.step s4) _ fun y H5 d m2 w5 s5 dy => ?_
      have s35 := s4.trans s5
      have k5 : Same (hide (Dl :: (O ++ R0)) H2) (hide (Dl :: (O ++ R0)) H5) := (hide_mono e3).trans (g4.keep s35)
      have eu : hide (Dl :: (O ++ R0)) (upd H5 Dl (.lst (acc ++ [y]))) = hide (Dl :: (O ++ R0)) H5 := hide_upd List.mem_cons_self
      have g5 : Lg K Z R0 H0 (Dl :: O) H5 (σ.set i none) (ρ.set i .un) j m2 := g3.step (s35.st sj4)
      have s15 : Spd j σ H1 H5 m2 := s23.trans (s35.st (sj4.trans (sj none)))
      refine ⟨acc, acc_of s35, by omega, accd ++ [d], acc ++ [y], m2, w5, by rw [List.length_append]; simp; omega, upd_same, ?_, ⟨g5.g.writeO List.mem_cons_self (ap m2), g5.hj⟩, ?_, ?_⟩
      · rw [eu]
        exact (dacc.mono k5).append (.cons dy .nil)
      · rw [eu]
        exact f2.trans k5
      · obtain ⟨B, kB, b1, b2, b3, b4⟩ := s15
        have eB := ref_inj (b1.symm.trans hA)
        rw [eB] at b1 b2 b4
        refine ⟨A, kB, b1, fun a o ha => ?_, b3, by rw [upd_ne (Ne.symm nA)]; exact b4⟩
        have h5 := b2 a o ha
        have na : a ∉ [A] := fun z => by
          rw [hide_in z] at ha
          cases ha
        have nd : a ≠ Dl := fun z => by
          rw [hide_get na, z, hD] at ha
          cases ha
        rw [hide_get na] at h5 ⊢
        rw [upd_ne nd]
        exact h5
  · have hk' : k = xs.length := by omega
    subst hk'
    exact .inl ⟨wstop (Nat.le_refl _), q Dl acc H2 accd m (wd accd m w) (s1.trans s2) (s1.fresh hD) hacc dacc⟩

/-! ### statements that draw -/
theorem Sg.lg (g : Sg K Z R0 H0 O H σ ρ) (hj : onlyC j ρ = true) (hn : ρ[j]? = some (.cell n)) : Lg K Z R0 H0 O H σ ρ j n := ⟨by rw [set_self hn]; exact g, hj⟩
theorem ls_set (hj : onlyC j ρ = true) (hn : ρ[j]? = some (.cell n)) (h : LX K te j ρ n fun d n' => E.nx ((ρ.set j (.cell n')).set i (.d d))) : SD K (tAsg te (gName i)) ρ E := fun Z R0 H0 Dn m c O H σ g =>
  h Z R0 O H0 H σ (g.lg hj hn) _ fun v H1 d n1 k s1 d1 => c.nx O H1 _ _ (((g.lg hj hn).step s1).g.put i d1) k
theorem putM {p : Addr} {vs : List V} (l : Lg K Z R0 H0 O H σ ρ j n) (s : Spd j σ H H' m) (hp : H p = none) (hx : H' p = some (.lst vs)) (h : DvAll K (hide (p :: (O ++ R0)) H') vs ds) :
    Sg K Z R0 H0 (p :: O) H' (σ.set i (some (.ref p))) ((ρ.set j (.cell m)).set i (.own ds)) := by
  have l1 := l.step s
  have npO : p ∉ O ++ R0 := fun z => (l.g.muts p z).1 hp
  have fz : Same (hide (O ++ R0) H) (hide (p :: (O ++ R0)) H') := fun a o ha => by
    have hin : a ∉ O ++ R0 := fun z => by
      rw [hide_in z] at ha
      cases ha
    have hk := l.keep s a o ha
    have na : a ≠ p := fun z => by
      rw [hide_get hin, z, hp] at ha
      cases ha
    rw [hide_get (fun z => (List.mem_cons.mp z).elim na hin)]
    rw [hide_get hin] at hk
    exact hk
  have old : ∀ {b : Addr}, H b ≠ none → b ≠ p := fun hb z => hb (z ▸ hp)
  refine ⟨?_, l.g.zin, ?_, ?_, by rw [List.length_set, List.length_set]; exact l1.g.len, fun k x q => ?_, fun k xs q => ?_, fun k n' q => ?_, fun a b xs ys q' q1 q2 s1 s2 => ?_⟩
  · intro a o ha
    have h1 := l1.g.same a o ha
    have h2 := l.g.same a o ha
    have na : a ≠ p := fun z => by
      have := hide_sub a o h2
      rw [z, hp] at this
      cases this
    have nO : a ∉ O := fun z => by
      rw [hide_in z] at h1
      cases h1
    rw [hide_get (fun z => (List.mem_cons.mp z).elim na nO)]
    rw [hide_get nO] at h1
    exact h1
  · intro a ha
    rcases List.mem_cons.mp ha with rfl | ha
    · rw [hx]
      exact ⟨by simp, rfl⟩
    · exact l1.g.muts a ha
  · intro a ha
    rcases List.mem_cons.mp ha with rfl | ha
    · exact fun z => npO (List.mem_append_right _ z)
    · exact l1.g.dis a ha
  · rcases mem_set q with ⟨rfl, e, hi⟩ | ⟨hk, q⟩
    · cases e
    · obtain ⟨v, a, b⟩ := l.g.dat k x (other_get l.hj q fun _ z => nomatch z)
      exact ⟨v, by rw [List.getElem?_set_ne (Ne.symm hk)]; exact a, b.mono fz⟩
  · rcases mem_set q with ⟨rfl, e, hi⟩ | ⟨hk, q⟩
    · cases e
      exact ⟨p, vs, List.getElem?_set_self (by rw [l1.g.len]; exact hi), List.mem_cons_self, hx, h⟩
    · obtain ⟨b, us, a, hb, cc, dd⟩ := l.g.own k xs (other_get l.hj q fun _ z => nomatch z)
      have nz : b ∉ Z := fun z => l.g.dis b hb (l.g.zin b z)
      have := l.keepZ s b _ (by rw [hide_get nz]; exact cc)
      rw [hide_get nz] at this
      exact ⟨b, us, by rw [List.getElem?_set_ne (Ne.symm hk)]; exact a, List.mem_cons_of_mem _ hb, this, dd.mono fz⟩
  · rcases mem_set q with ⟨rfl, e, hi⟩ | ⟨hk, q⟩
    · cases e
    · obtain ⟨A, k2, a, b, cc, dd⟩ := l1.g.cell k n' q
      exact ⟨A, k2, by rw [List.getElem?_set_ne (Ne.symm hk)]; exact a, b, cc, dd⟩
  · have lt_of : ∀ {k : Nat} {u : Addr}, (σ.set i (some (V.ref p)))[k]? = some (some (V.ref u)) → k < σ.length := fun {k u} hh => by
      have := (List.getElem?_eq_some_iff.mp hh).1
      simpa using this
    rcases mem_set q1 with ⟨ea, e1, _⟩ | ⟨ha, q1⟩
    · rcases mem_set q2 with ⟨eb, e2, _⟩ | ⟨hb, q2⟩
      · rw [ea, eb]
      · obtain ⟨w, us, a', hw, cc, _⟩ := l.g.own b ys (other_get l.hj q2 fun _ z => nomatch z)
        have hl := lt_of s1
        rw [List.getElem?_set_ne (Ne.symm hb)] at s2
        cases ref_inj (a'.symm.trans s2)
        rw [ea] at s1 hl
        rw [List.getElem?_set_self hl] at s1
        cases ref_inj s1
        rw [hp] at cc
        cases cc
    · rcases mem_set q2 with ⟨eb, e2, _⟩ | ⟨hb, q2⟩
      · obtain ⟨w, us, a', hw, cc, _⟩ := l.g.own a xs (other_get l.hj q1 fun _ z => nomatch z)
        have hl := lt_of s2
        rw [List.getElem?_set_ne (Ne.symm ha)] at s1
        cases ref_inj (a'.symm.trans s1)
        rw [eb] at s2 hl
        rw [List.getElem?_set_self hl] at s2
        cases ref_inj s2
        rw [hp] at cc
        cases cc
      · rw [List.getElem?_set_ne (Ne.symm ha)] at s1
        rw [List.getElem?_set_ne (Ne.symm hb)] at s2
        exact l1.g.apart a b xs ys q' q1 q2 s1 s2
theorem ls_setL (hj : onlyC j ρ = true) (hn : ρ[j]? = some (.cell n)) (h : LL K te j ρ n fun ds n' => E.nx ((ρ.set j (.cell n')).set i (.own ds))) : SD K (tAsg te (gName i)) ρ E := fun Z R0 H0 Dn m c O H σ g =>
  h Z R0 O H0 H σ (g.lg hj hn) _ fun p xs H1 ds n1 k s1 hp hx d1 => c.nx (p :: O) H1 _ _ (putM (g.lg hj hn) s1 hp hx d1) k
theorem ls_par {i2 : Nat} {t : TA} (hj : onlyC j ρ = true) (hn : ρ[j]? = some (.cell n)) (h : LA K t j ρ n fun ds n' => ∃ d e, ds = [d, e] ∧ E.nx (((ρ.set j (.cell n')).set i (.d d)).set i2 (.d e))) : SD K (tPar i i2 t) ρ E := fun Z R0 H0 Dn m c O H σ g =>
  h Z R0 O H0 H σ (g.lg hj hn) _ fun vs H1 ds n1 ⟨d, e, he, k⟩ s1 d1 => by
    subst he
    obtain ⟨v, w, rfl, dv, dw⟩ := d1.two
    exact ⟨v, w, rfl, c.nx O H1 _ _ ((((g.lg hj hn).step s1).g.put i dv).put i2 dw) k⟩
theorem ls_if {t u : TS} (hj : onlyC j ρ = true) (hn : ρ[j]? = some (.cell n)) (h : LT K c j ρ n fun b n' => if b = true then SD K t (ρ.set j (.cell n')) E else SD K u (ρ.set j (.cell n')) E) : SD K (tIfS c t u) ρ E := fun Z R0 H0 Dn m cv O H σ g =>
  h Z R0 O H0 H σ (g.lg hj hn) _ fun b H1 n1 k s1 => by
    cases b with
    | true =>
      rw [if_pos rfl] at k
      exact k Z R0 H0 Dn m cv O H1 σ ((g.lg hj hn).step s1).g
    | false =>
      rw [if_neg Bool.false_ne_true] at k
      exact k Z R0 H0 Dn m cv O H1 σ ((g.lg hj hn).step s1).g
theorem ls_ret (hj : onlyC j ρ = true) (hn : ρ[j]? = some (.cell n)) (h : LX K te j ρ n fun d n' => E.rt (ρ.set j (.cell n')) (.d d)) : SD K (tRet te) ρ E := fun Z R0 H0 Dn m c O H σ g =>
  h Z R0 O H0 H σ (g.lg hj hn) _ fun v H1 d n1 k s1 d1 => c.rt O H1 σ _ v (.d d) ((g.lg hj hn).step s1).g (d1.mono hide_app_sub) k
theorem ls_retL (hj : onlyC j ρ = true) (hn : ρ[j]? = some (.cell n)) (h : LL K te j ρ n fun ds n' => E.rt (ρ.set j (.cell n')) (.l ds)) : SD K (tRet te) ρ E := fun Z R0 H0 Dn m c O H σ g =>
  h Z R0 O H0 H σ (g.lg hj hn) _ fun p xs H1 ds n1 k s1 hp hx d1 => by
    refine c.rt O H1 σ _ _ (.l ds) ((g.lg hj hn).step s1).g ⟨p, xs, rfl, g.fresh (o := .lst []) hp, hx, d1.mono fun a o ha => ?_⟩ k
    unfold hide at ha ⊢
    split at ha
    · cases ha
    · rename_i hb
      rw [if_neg (fun z => hb ?_)]
      · exact ha
      · rcases List.mem_cons.mp z with rfl | z
        · exact List.mem_cons_self
        · exact List.mem_cons_of_mem _ (List.mem_append_right _ z)
theorem ls_for {wi : TI} {g : TG} {tb : TS} (hj : onlyC j ρ = true) (hn : ρ[j]? = some (.cell n)) (hi : LI K wi j ρ n fun ds n1 => ∃ W : Nat → Sls → Prop, W 0 (ρ.set j (.cell n1)) ∧
      (∀ (i : Nat) d ρ', ds[i]? = some d → W i ρ' → ∃ ρ'', EGS K g d ρ' ρ'' ∧ SD K tb ρ'' { E with nx := W (i + 1), ct := W (i + 1), bk := E.nx }) ∧ ∀ ρ', W ds.length ρ' → E.nx ρ') : SD K (tFor wi g tb) ρ E := fun Z R0 H0 Dn m c O H σ gg =>
  hi Z R0 O H0 H σ (gg.lg hj hn) _ fun J H1 ds n1 ⟨W, w0, ws, wd⟩ s1 wk =>
    for_core (wi := fun _ H' Rr => Rr J H') W m c ((gg.lg hj hn).step s1).g (fun Rr hr => hr J H1 (Same.refl H1) wk) w0 ws wd
theorem ls_app {xs : List D} (hj : onlyC j ρ = true) (hn : ρ[j]? = some (.cell n)) (hij : i ≠ j) (hi : ρ[i]? = some (.own xs)) (hz : xs.length < sizeLine) (h : LX K te j ρ n fun d n' => E.nx ((ρ.set j (.cell n')).set i (.own (xs ++ [d])))) :
    SD K (tDrop (tBM K "list" rAppend (tVar i) (tCons te tNil))) ρ E := fun Z R0 H0 Dn m c O H σ g => by
  obtain ⟨l, vs, a, b, hl, dd⟩ := g.own i xs hi
  refine ⟨_, a, .inl ⟨rfl, _, SqL.of hl⟩, h Z R0 O H0 H σ (g.lg hj hn) _ fun v H1 d n1 k s1 d1 => ?_⟩
  have g1 := ((g.lg hj hn).step s1).g
  have hi1 : (ρ.set j (.cell n1))[i]? = some (.own xs) := by rw [List.getElem?_set_ne (Ne.symm hij)]; exact hi
  obtain ⟨l', us, a', b', hl', dd'⟩ := g1.own i xs hi1
  cases ref_inj (a.symm.trans a')
  exact ⟨l, us, v, rfl, rfl, hl', by rw [dd'.length]; exact hz, c.nx O _ _ _ (g1.write hi1 a (dd'.append (.cons d1 .nil))) k⟩
/-- xs.insert(i, e), xs a list of one's own -/
theorem ls_ins {xs : List D} {t : TA} (hj : onlyC j ρ = true) (hn : ρ[j]? = some (.cell n)) (hij : i ≠ j) (hi : ρ[i]? = some (.own xs)) (hz : xs.length < sizeLine)
    (h : LA K t j ρ n fun ds n' => ∃ (k : Nat) (d : D), ds = [.int k, d] ∧ k ≤ xs.length ∧ E.nx ((ρ.set j (.cell n')).set i (.own (xs.take k ++ [d] ++ xs.drop k)))) :
    SD K (tDrop (tBM K "list" rInsert (tVar i) t)) ρ E := fun Z R0 H0 Dn m c O H σ g => by
  obtain ⟨l, vs, a, b, hl, dd⟩ := g.own i xs hi
  refine ⟨_, a, .inl ⟨rfl, _, SqL.of hl⟩, h Z R0 O H0 H σ (g.lg hj hn) _ fun ws H1 ds n1 ⟨k, d, e, hk, kk⟩ s1 d1 => ?_⟩
  subst e
  obtain ⟨v, w, rfl, dv, dw⟩ := d1.two
  cases dv.int_inv
  have g1 := ((g.lg hj hn).step s1).g
  have hi1 : (ρ.set j (.cell n1))[i]? = some (.own xs) := by rw [List.getElem?_set_ne (Ne.symm hij)]; exact hi
  obtain ⟨l', us, a', b', hl', dd'⟩ := g1.own i xs hi1
  cases ref_inj (a.symm.trans a')
  have hs : xs.length < sizeLine := hz
  have hsz : sizeLine < 2 ^ 60 := by decide
  refine ⟨l, us, (k : Int), w, rfl, rfl, hl', by rw [dd'.length]; exact hz, by omega, by omega, ?_⟩
  rw [Int.toNat_natCast]
  exact c.nx O _ _ _ (g1.write hi1 a (((dd'.take k).append (.cons dw .nil)).append (dd'.drop k))) kk
/-- the number in the cell is read -/
theorem ls_get (hj : onlyC j ρ = true) (hn : ρ[j]? = some (.cell n)) (h : ∀ k : Int, 0 ≤ k → k + (n : Int) ≤ 2 ^ 60 → E.nx (ρ.set i (.d (.int k)))) : SD K (tAsg (tOp (rIx K) (tVar j) (tC (.int 0))) (gName i)) ρ E := fun Z R0 H0 Dn m c O H σ g => by
  obtain ⟨A, k, hA, hz, hk, hH⟩ := g.cell j n hn
  refine ⟨_, hA, .inl ⟨A, _, 0, .int k, rfl, rfl, SqL.of hH, rfl, ?_⟩⟩
  exact c.nx O H _ _ (g.put i (.int k)) (h k hk.1 hk.2)
/-- .. and stored -/
theorem ls_put {k : Int} (hj : onlyC j ρ = true) (hn : ρ[j]? = some (.cell n)) (he : ED K te (allR ρ) (.int k)) (h0 : 0 ≤ k) (hk : k + (m : Int) ≤ 2 ^ 60) (h : E.nx (ρ.set j (.cell m))) : SD K (tAsg te (gSub (tVar j) (tC (.int 0)) rSetL)) ρ E := fun Z R0 H0 Dn mu c O H σ g =>
  he R0 σ H g.m0 g.seen _ fun v H1 e1 d1 => by
    cases d1.int_inv
    have l := (g.grow e1).lg hj hn
    obtain ⟨A, k0, hA, hz, _, hH⟩ := l.addr
    refine ⟨_, hA, A, _, 0, 0, rfl, rfl, hH, rfl, ?_⟩
    refine c.nx O _ _ _ (l.step ⟨A, k, hA, fun a o ha => ?_, ⟨h0, hk⟩, upd_same⟩).g h
    have na : a ∉ [A] := fun z => by
      rw [hide_in z] at ha
      cases ha
    rw [hide_get na] at ha ⊢
    rw [upd_ne (fun z => na (List.mem_singleton.mpr z))]
    exact ha
end
end CJ

set_option Elab.async false
set_option linter.all false
set_option maxRecDepth 100000
set_option maxHeartbeats 4000000
/-! A law's defs: how a promise comes of a body's reading. -/
namespace CJ
open PySem L2
/-- the slots at the entry of a def that draws, with q names of its own -/
def entryN (q : Nat) (cs : List Int) (n : Nat) (ds : List D) : Sls := .d (.list (cs.map .int)) :: .cell n :: (ds.map .d ++ List.replicate q .un)
theorem entryN_sg {K : PySem.W.Frag} {R : List Addr} {A : Addr} {H : Hp} {s : V} {ws : List V} {ds : List D} {cs : List Int} {n : Nat} {k : Int} (q : Nat) (m : Muts R H) (hA : A ∈ R) (hs : Dv K (hide R H) s (.list (cs.map .int))) (hd : DvAll K (hide R H) ws ds) (hk : 0 ≤ k ∧ k + (n : Int) ≤ 2 ^ 60) (hH : H A = some (.lst [.int k])) :
    Sg K [A] R H [] H (some s :: some (.ref A) :: (ws.map some ++ List.replicate q none)) (entryN q cs n ds) := by
  have hl := hd.length
  have rest : ∀ (i : Nat) (e : Sl), (ds.map Sl.d ++ List.replicate q Sl.un)[i]? = some e → e = .un ∨ ∃ x, e = .d x ∧ ∃ v, (ws.map some ++ List.replicate q none)[i]? = some (some v) ∧ Dv K (hide R H) v x := fun i e h => by
    by_cases hi : i < ds.length
    · rw [List.getElem?_append_left (by simpa using hi), List.getElem?_map, List.getElem?_eq_getElem hi] at h
      obtain ⟨v, hv, dv⟩ := hd.get (i := i) (d := ds[i]) (List.getElem?_eq_getElem hi)
      refine .inr ⟨ds[i], (Option.some.inj h).symm, v, ?_, dv⟩
      rw [List.getElem?_append_left (by simp [hl]; exact hi), List.getElem?_map, hv]
      rfl
    · rw [List.getElem?_append_right (by simpa using hi)] at h
      have := List.mem_of_getElem? h
      rw [List.mem_replicate] at this
      exact .inl this.2
  refine ⟨?_, fun a ha => ?_, by rw [List.nil_append]; exact m, (fun _ z => by cases z), by simp [entryN, hl], fun i x h => ?_, fun i xs h => ?_, fun i n' h => ?_, fun i j xs ys l h => ?_⟩
  · rw [hide_nil]
    exact hide_sub
  · cases List.mem_singleton.mp ha
    exact hA
  · rw [List.nil_append]
    match i with
    | 0 =>
      have e : x = .list (cs.map .int) := by
        have : some (Sl.d (.list (cs.map .int))) = some (Sl.d x) := h
        injection this with this
        injection this with this
        exact this.symm
      subst e
      exact ⟨s, rfl, hs⟩
    | 1 => exact absurd (show some (Sl.cell n) = some (Sl.d x) from h) (by simp)
    | i + 2 =>
      rcases rest i _ h with z | ⟨y, e, v, hv, dv⟩
      · cases z
      · cases e
        exact ⟨v, hv, dv⟩
  · match i with
    | 0 => exact absurd (show some (Sl.d (.list (cs.map .int))) = some (Sl.own xs) from h) (by simp)
    | 1 => exact absurd (show some (Sl.cell n) = some (Sl.own xs) from h) (by simp)
    | i + 2 =>
      rcases rest i _ h with z | ⟨y, e, _⟩
      · cases z
      · cases e
  · match i with
    | 0 => exact absurd (show some (Sl.d (.list (cs.map .int))) = some (Sl.cell n') from h) (by simp)
    | 1 =>
      have e : n = n' := by
        have : some (Sl.cell n) = some (Sl.cell n') := h
        injection this with this
        injection this
      subst e
      exact ⟨A, k, rfl, List.mem_singleton.mpr rfl, hk, hH⟩
    | i + 2 =>
      rcases rest i _ h with z | ⟨y, e, _⟩
      · cases z
      · cases e
  · match i with
    | 0 => exact absurd (show some (Sl.d (.list (cs.map .int))) = some (Sl.own xs) from h) (by simp)
    | 1 => exact absurd (show some (Sl.cell n) = some (Sl.own xs) from h) (by simp)
    | i + 2 =>
      rcases rest i _ h with z | ⟨y, e, _⟩
      · cases z
      · cases e
theorem onlyC_entry {q : Nat} {cs : List Int} {n : Nat} {ds : List D} : onlyC 1 (entryN q cs n ds) = true := by
  have : noC (ds.map Sl.d ++ List.replicate q Sl.un) = true := by
    induction ds with
    | nil =>
      induction q with
      | zero => rfl
      | succ q ih => exact ih
    | cons d ds ih => exact ih
  exact this
/-- what a def that draws is to hand back: cost c of n -/
def retN (n c : Nat) (post : D → Prop) : DE := { nx := fun _ => False, rt := fun ρ r => ∃ n', ρ[1]? = some (.cell n') ∧ n ≤ n' + c ∧ ((∃ d, r = .d d ∧ post d) ∨ ∃ ds, r = .l ds ∧ post (.list ds)) }
def retM (n c : Nat) (post : List D → Prop) : DE := { nx := fun _ => False, rt := fun ρ r => ∃ n', ρ[1]? = some (.cell n') ∧ n ≤ n' + c ∧ ∃ ds, r = .l ds ∧ post ds }
/-- law's ends: True is handed back -/
def lawE : DE := { nx := fun _ => False, rt := fun _ r => r = .d (.bool true) }
/-- law's promise -/
def spLaw (K : PySem.W.Frag) : Sp := fun vs H Q _ => ∃ (a : Addr) (ns : List Int), vs = [.ref a] ∧ SqL K H a (ns.map V.int) ∧ ns.length ≤ 63 ∧ ∀ H', Q (.bl true) H'
section
variable {P : Program} {w : World} {K : PySem.W.Frag} {mg : Str → Option Value} {base : Heap} {x qual : Str} {st : Stmt} {f : Addr} {fd : FuncData} {N ps : List Str} {k : Nat} {α : Type} {pre : α → Prop} {args : α → List D} {cost : α → Nat}
theorem cell_same {A : Addr} {O : List Addr} {H H' : Hp} (s : Same (hide [A] H) (hide O H')) : Same (hide [A] H) (hide [A] H') := fun a o ha => by
  have na : a ∉ [A] := fun z => by
    rw [hide_in z] at ha
    cases ha
  rw [hide_get na]
  exact hide_sub a o (s a o ha)
theorem okN {post : α → D → Prop} (q : Nat) (F : Fun K x qual st f fd) (S : FnScope N ps (defScope st)) (len : ∀ a, (args a).length + 2 = ps.length) (hq : N.length = ps.length + q)
    (hbody : ∀ (cdv : Value) (A : Around) (outer : List Env) (s : Shared) (H : Hp) (E : XK), Room k (A.deeper (PyProof.Rows.envOfC qual (defScope st) s.heap.objs.size f cdv)) →
      ∃ t, PSs (cxOf CX0 P w K mg base N qual (defScope st) f cdv A outer s H E).nox (defBody st) t ∧ ∀ a cs n, pre a → cs.length ≤ 63 → cost a ≤ n → SD K t (entryN q cs n (args a)) (retN n (cost a) (post a))) : FnOk P w K mg base CX0 (k + 1) f fd ps (spN K pre args cost post) := by
  refine F.ok S (fun vs H Q E h => ?_) (fun cdv A outer s H vs Q E hr h => ?_)
  · obtain ⟨R, A, a, cs, s, ws, n, k, rfl, _, _, _, _, _, hd, _⟩ := h
    rw [← len a, ← hd.length]
    rfl
  · obtain ⟨R, A', a, cs, s', ws, n, k', rfl, hp, hA, m, hc, hs', hd, hn, hk, hH, qq⟩ := h
    obtain ⟨t, ht, hs⟩ := hbody cdv A outer s H E hr
    have hw : ws.length + 2 = ps.length := by rw [hd.length, len]
    have es : L2.start N (s' :: .ref A' :: ws) = some s' :: some (.ref A') :: (ws.map some ++ List.replicate q none) := by
      show some s' :: some (V.ref A') :: (ws.map some ++ List.replicate (N.length - (ws.length + 1 + 1)) none) = _
      rw [show N.length - (ws.length + 1 + 1) = q by omega]
    refine ⟨t, ht, ?_⟩
    rw [es]
    refine hs a cs n hp hc hn [A'] R H _ m ⟨fun _ _ _ _ _ z => z.elim, fun O H' σ' ρ' v r g' hr' ⟨n', h1, h2, h3⟩ => ?_, fun _ _ _ _ _ z => z.elim, fun _ _ _ _ _ z => z.elim⟩ [] H _ (entryN_sg q m hA hs' hd hk hH)
    obtain ⟨B, kB, b1, b2, b3, b4⟩ := g'.cell 1 n' h1
    cases List.mem_singleton.mp b2
    have sm := cell_same g'.same
    have hb : 0 ≤ kB ∧ kB + ((n - cost a : Nat) : Int) ≤ 2 ^ 60 := ⟨b3.1, by omega⟩
    rcases h3 with ⟨d, rfl, po⟩ | ⟨ds, rfl, po⟩
    · exact qq v H' d kB po sm hb b4 hr'
    · obtain ⟨p, us, rfl, c1, c2, c3⟩ := hr'
      have np : p ∉ R := fun z => (m p z).1 c1
      refine qq _ H' _ kB po sm hb b4 (.lst (.inl (.inl ?_)) (c3.mono hide_cons_sub))
      rw [hide_get np]
      exact c2
theorem okM {post : α → List D → Prop} (q : Nat) (F : Fun K x qual st f fd) (S : FnScope N ps (defScope st)) (len : ∀ a, (args a).length + 2 = ps.length) (hq : N.length = ps.length + q)
    (hbody : ∀ (cdv : Value) (A : Around) (outer : List Env) (s : Shared) (H : Hp) (E : XK), Room k (A.deeper (PyProof.Rows.envOfC qual (defScope st) s.heap.objs.size f cdv)) →
      ∃ t, PSs (cxOf CX0 P w K mg base N qual (defScope st) f cdv A outer s H E).nox (defBody st) t ∧ ∀ a cs n, pre a → cs.length ≤ 63 → cost a ≤ n → SD K t (entryN q cs n (args a)) (retM n (cost a) (post a))) : FnOk P w K mg base CX0 (k + 1) f fd ps (spM K pre args cost post) := by
  refine F.ok S (fun vs H Q E h => ?_) (fun cdv A outer s H vs Q E hr h => ?_)
  · obtain ⟨R, A, a, cs, s, ws, n, k, rfl, _, _, _, _, _, hd, _⟩ := h
    rw [← len a, ← hd.length]
    rfl
  · obtain ⟨R, A', a, cs, s', ws, n, k', rfl, hp, hA, m, hc, hs', hd, hn, hk, hH, qq⟩ := h
    obtain ⟨t, ht, hs⟩ := hbody cdv A outer s H E hr
    have hw : ws.length + 2 = ps.length := by rw [hd.length, len]
    have es : L2.start N (s' :: .ref A' :: ws) = some s' :: some (.ref A') :: (ws.map some ++ List.replicate q none) := by
      show some s' :: some (V.ref A') :: (ws.map some ++ List.replicate (N.length - (ws.length + 1 + 1)) none) = _
      rw [show N.length - (ws.length + 1 + 1) = q by omega]
    refine ⟨t, ht, ?_⟩
    rw [es]
    refine hs a cs n hp hc hn [A'] R H _ m ⟨fun _ _ _ _ _ z => z.elim, fun O H' σ' ρ' v r g' hr' ⟨n', h1, h2, ds, e, po⟩ => ?_, fun _ _ _ _ _ z => z.elim, fun _ _ _ _ _ z => z.elim⟩ [] H _ (entryN_sg q m hA hs' hd hk hH)
    subst e
    obtain ⟨B, kB, b1, b2, b3, b4⟩ := g'.cell 1 n' h1
    cases List.mem_singleton.mp b2
    have sm := cell_same g'.same
    have hb : 0 ≤ kB ∧ kB + ((n - cost a : Nat) : Int) ≤ 2 ^ 60 := ⟨b3.1, by omega⟩
    obtain ⟨p, us, rfl, c1, c2, c3⟩ := hr'
    exact qq p us H' ds kB po sm hb b4 c1 c2 c3
/-- law itself: the cell is made, then the rest goes to True -/
theorem okLaw (q : Nat) (F : Fun K x qual st f fd) (S : FnScope N ps (defScope st)) (hps : ps.length = 1) (hq : N.length = 2 + q)
    (hbody : ∀ (cdv : Value) (A : Around) (outer : List Env) (s : Shared) (H : Hp) (E : XK), Room k (A.deeper (PyProof.Rows.envOfC qual (defScope st) s.heap.objs.size f cdv)) →
      ∃ t, PSs (cxOf CX0 P w K mg base N qual (defScope st) f cdv A outer s H E).nox (defBody st) (tSeq (tAsg (tLst (tCons (tC (.int 0)) tNil)) (gName 1)) t) ∧ ∀ cs, cs.length ≤ 63 → SD K t (entryN q cs (2 ^ 60) []) lawE) :
    FnOk P w K mg base CX0 (k + 1) f fd ps (spLaw K) := by
  refine F.ok S (fun vs H Q E h => ?_) (fun cdv A outer s H vs Q E hr h => ?_)
  · obtain ⟨a, ns, rfl, _⟩ := h
    rw [hps]
    rfl
  · obtain ⟨a, ns, rfl, hS, hc, qq⟩ := h
    obtain ⟨t, ht, hs⟩ := hbody cdv A outer s H E hr
    refine ⟨_, ht, ?_⟩
    show (1 : Nat) ≤ sizeLine ∧ _
    refine ⟨by decide, fun p hp => ?_⟩
    have es : (L2.start N [.ref a]).set 1 (some (.ref p)) = some (.ref a) :: some (.ref p) :: (([] : List V).map some ++ List.replicate q none) := by
      show (some (V.ref a) :: List.replicate (N.length - 1) none).set 1 (some (V.ref p)) = _
      rw [show N.length - 1 = q + 1 by omega, List.replicate_succ]
      rfl
    show t _ ((L2.start N [.ref a]).set 1 (some (.ref p))) _
    rw [es]
    have fz : Same H (hide [p] (upd H p (.lst [.int 0]))) := by
      have := frozen_upd (R := []) (o := .lst [.int 0]) hp
      rw [hide_nil] at this
      exact this
    have m : Muts [p] (upd H p (.lst [.int 0])) := fun b hb => by
      cases List.mem_singleton.mp hb
      rw [upd_same]
      exact ⟨by simp, rfl⟩
    have hd : DvAll K (hide [p] (upd H p (.lst [.int 0]))) (ns.map V.int) (ns.map PyData.int) := DvAll.ints ns
    refine hs ns hc [p] [p] _ _ m ⟨fun _ _ _ _ _ z => z.elim, fun O H' σ' ρ' v r g' hr' e => ?_, fun _ _ _ _ _ z => z.elim, fun _ _ _ _ _ z => z.elim⟩ [] _ _ (entryN_sg q m (List.mem_singleton.mpr rfl) (.lst (Same.seq fz hS) hd) .nil ⟨by decide, by decide⟩ upd_same)
    subst e
    cases (show Dv K (hide [p] H') v (.bool true) from hr').bool_inv
    exact qq H'
end
end CJ

set_option Elab.async false
set_option linter.all false
set_option maxRecDepth 100000
set_option maxHeartbeats 4000000
/-! More readings: xs[::s] by 1 or -1, a text by a number, a new list by a number, a display. -/
namespace CJ
open PySem L2 PySem.Spec PyProof.Rows
section
variable {X : Cx}
/-- xs[::s], xs a list, s 1 or -1 -/
def tStep (K : PySem.W.Frag) (te ts : TE) : TE := fun σ H Q => te σ H fun x H1 => ts σ H1 fun y H2 => ∃ a xs, ∃ w : Bool, x = .ref a ∧ SqL K H2 a xs ∧ y = .int (if w = true then 1 else -1) ∧ ∀ p, H2 p = none → Q (.ref p) (upd H2 p (.lst (if w = true then xs else xs.reverse)))
theorem pick_one (items : Array Value) : slicePick items none none (some 1) = items := by
  have : slicePick items none none (some 1) = slicePick items none none none := rfl
  rw [this, PySem.W.kms_pick_eq]
  unfold PySem.W.kms_pick
  show ((items.toList.drop 0).take (items.toList.length - 0)).toArray = items
  rw [List.drop_zero, Nat.sub_zero, List.take_length, Array.toArray_toList]
theorem pe_step {e st : Expr} {te ts : TE} {p3 pos : Pos} (he : PE X e te) (hs : PE X st ts) : PE X (.Subscript e (.Slice none none (some st) p3) pos) (tStep X.K te ts) := by
  refine ⟨fun pins s σ H Q I h => ?_⟩
  refine Subscript_ (thn (he.run pins s σ H _ I h) fun v s1 ⟨x, H1, I1, r1, q1⟩ => ?_)
  refine wpAny_Slice (thn (po_none.run pins s1 σ H1 (fun o H2 => o = none ∧ H2 = H1) I1 ⟨rfl, rfl⟩) fun vl s2 ⟨l, H2, I2, pl, el, e2⟩ => ?_)
  subst el e2
  refine thn (po_none.run pins s2 σ H2 (fun o H3 => o = none ∧ H3 = H2) I2 ⟨rfl, rfl⟩) fun vu s3 ⟨u, H3, I3, pu, eu, e3⟩ => ?_
  subst eu e3
  rw [evalPart_some]
  refine thn (hs.run pins s3 σ H3 _ I3 q1) fun vs s4 ⟨y, H4, I4, ry, a, xs, w, ex, hx, ey, q⟩ => ?_
  subst ey
  obtain ⟨tk, rfl⟩ := ry
  have ps : IsPart (.int (if w = true then 1 else -1) tk) (some (if w = true then 1 else -1)) := .int _ _
  subst ex
  cases r1
  have I5 : Inv X pins σ H4 { s4 with heap := s4.heap.push { cls := .type "slice", data := .fields #[vl, vu, .int (if w = true then 1 else -1) tk] } } := I4.kept (t' := s4.toks) fun b ob q => Heap.get?_push_of_some _ q
  obtain ⟨its, r, ht, hz⟩ := I5.list hx
  have hlen := r.length
  show wpAny (model X.prog X.w) X.A (subscriptTail e (.Slice none none (some st) p3) (.ref a) (.ref s4.heap.objs.size)) (EP X pins σ Q) X.xe { s4 with heap := s4.heap.push { cls := .type "slice", data := .fields #[vl, vu, .int (if w = true then 1 else -1) tk] } }
  refine tail_any (ops := [.ref a, .ref s4.heap.objs.size]) ht.isList.typeIs (PySem.slot_list_getitem.lookup) ?_ (by with_unfolding_all rfl)
  refine wpAny_getItem_list_slice ht.isList (Heap.IsSliceOf.new _ vl vu _) pl pu ps (by cases w <;> decide) ?_ (by rw [List.size_toArray]; omega)
  cases w with
  | true =>
    rw [if_pos rfl] at q
    rw [if_pos rfl, pick_one]
    refine ⟨.ref _, _, I5.laid (t' := s4.toks) (o := .lst xs) (fun b ob q => Heap.get?_push_of_some _ q) (Nat.le_refl _) ?_, rfl, q _ (I5.hok.fresh (Nat.le_refl _))⟩
    exact ⟨hz, _, 0, r, Heap.get?_push_size _ rfl⟩
  | false =>
    rw [if_neg Bool.false_ne_true] at q
    rw [if_neg Bool.false_ne_true, PySem.W.krv_pick]
    refine ⟨.ref _, _, I5.laid (t' := s4.toks) (o := .lst xs.reverse) (fun b ob q => Heap.get?_push_of_some _ q) (Nat.le_refl _) ?_, rfl, q _ (I5.hok.fresh (Nat.le_refl _))⟩
    exact ⟨by rw [List.length_reverse]; exact hz, _, 0, r.reverse, Heap.get?_push_size _ rfl⟩
end

/-! ### the same in data -/
section
variable {K : PySem.W.Frag} {H H' : Hp} {σ : L2.St} {ρ : Rho} {ta tb te ts : TE} {d e f : D} {ds es : List D}
theorem el_step {w : Bool} (h : ED K te ρ (.list ds)) (hs : ED K ts ρ (.int (if w = true then 1 else -1))) : EL K (tStep K te ts) ρ (if w = true then ds else ds.reverse) := fun R σ H m s Q q =>
  h R σ H m s _ fun v H1 e1 d1 => hs R σ H1 (m.mono e1) (s.step e1) _ fun y H2 e2 d2 => by
    obtain ⟨a, xs, rfl, hx, hd⟩ := d1.list_inv
    cases d2.int_inv
    refine ⟨a, xs, w, rfl, Same.seq e2 (SqL.up hx), rfl, fun p hp => ?_⟩
    refine q p _ _ ((e1.trans e2).trans (Same.upd_new hp)) (Same.none (e1.trans e2) hp) upd_same ?_
    cases w with
    | true =>
      rw [if_pos rfl, if_pos rfl]
      exact (hd.mono (hide_mono e2)).mono (frozen_upd hp)
    | false =>
      rw [if_neg Bool.false_ne_true, if_neg Bool.false_ne_true]
      exact (hd.reverse.mono (hide_mono e2)).mono (frozen_upd hp)
theorem DvAll.rep {G : Hp} {xs : List V} (h : DvAll K G xs ds) : ∀ n : Nat, DvAll K G (List.replicate n xs).flatten (List.replicate n ds).flatten
  | 0 => .nil
  | n + 1 => by
    rw [List.replicate_succ, List.replicate_succ, List.flatten_cons, List.flatten_cons]
    exact h.append (DvAll.rep h n)
/-- a new list times a whole number -/
theorem el_repF {k : Int} (h : EL K ta ρ ds) (hk : ED K tb ρ (.int k)) (h0 : -(2 ^ 63) ≤ k) (h1 : k < 2 ^ 63) (hz : ds.length * k.toNat ≤ sizeLine) : EL K (tOp rMulA ta tb) ρ (List.replicate k.toNat ds).flatten := fun R σ H m s Q q =>
  h R σ H m s _ fun p xs H1 e1 hp hx d1 => hk R σ H1 (m.mono e1) (s.step e1) _ fun y H2 e2 d2 => by
    cases d2.int_inv
    refine .inr (.inl ⟨p, k, xs, rfl, rfl, e2 _ _ hx, h0, h1, by rw [d1.length]; exact hz, fun p2 hp2 => ?_⟩)
    refine q p2 _ _ ((e1.trans e2).trans (Same.upd_new hp2)) (Same.none (e1.trans e2) hp2) upd_same ?_
    exact (((d1.mono hide_cons_sub).mono (hide_mono e2)).rep _).mono (frozen_upd hp2)
theorem rd_repS {z : Str} {k : Int} (h2 : 2 ≤ k) (h64 : k ≤ 64) (hz : z.length ≤ 64) : RD K rMulA (.str z) (.int k) (.str (repS z k)) := fun R H x y m hx hy Q q => by
  cases hx.str_inv
  cases hy.int_inv
  exact .inr (.inr ⟨z, k, rfl, rfl, h2, h64, hz, q _ H (Same.refl H) (.str _)⟩)
theorem ed_upper {z : Str} (h : ED K te ρ (.str z)) (hz : z.length ≤ 1000) : ED K (tM0 rUpper te) ρ (.str (Txt.upper z)) := fun R σ H m s Q q =>
  h R σ H m s _ fun v H1 e1 d1 => by
    cases d1.str_inv
    exact ⟨⟨z, rfl⟩, z, rfl, rfl, by omega, q _ H1 e1 (.str _)⟩
/-- {text: x} -/
theorem ed_disp1 {z : Str} (hk : ED K ta ρ (.str z)) (hv : ED K tb ρ d) : ED K (tDisp [(ta, tb)]) ρ (.dict []) := fun R σ H m s Q q p hp => by
  have e0 : Same H (upd H p (.dK [])) := Same.upd_new hp
  have np : p ∉ R := m.used.new hp
  refine hk R σ _ (m.mono e0) (s.step e0) _ fun v H1 e1 d1 => hv R σ H1 ((m.mono e0).mono e1) ((s.step e0).step e1) _ fun w H2 e2 d2 => ?_
  cases d1.str_inv
  refine ⟨e2 _ _ (e1 _ _ upd_same), [(Sum.inr z, w)], rfl, (by show 1 ≤ 15; decide), ?_⟩
  refine q _ _ (Same.mut ((e0.trans e1).trans e2) hp) (.dct (kvs := mergeK [] [(Sum.inr z, w)]) ?_)
  rw [hide_get np, upd_same]
end
end CJ

set_option Elab.async false
set_option linter.all false
set_option maxRecDepth 100000
set_option maxHeartbeats 4000000
/-! Small things of the laws: ranges, texts of letters, slots forgotten. -/
namespace CJ
open PySem L2
section
variable {K : PySem.W.Frag} {ρ : Sls} {E : DE} {te : TE} {t : TS} {n j i : Nat}
theorem li_rng1 {C : List D → Nat → Prop} (h : LX K te j ρ n fun d n1 => ∃ i : Int, d = .int i ∧ (-(2 ^ 62) ≤ i ∧ i < 2 ^ 62) ∧ C ((List.range i.toNat).map fun i => .int ((i : Nat) : Int)) n1) : LI K (iRng1 (tCons te tNil)) j ρ n C := fun Z R0 O H0 H σ l Q q =>
  h Z R0 O H0 H σ l _ fun v H1 d n1 ⟨i, e, h1, c⟩ s1 d1 => by
    subst e
    cases d1.int_inv
    refine ⟨i, rfl, h1.1, h1.2, q _ H1 _ n1 c s1 ?_⟩
    have w := walk_range (K := K) (G := hide (O ++ R0) H1) (lo := 0) (n := i.toNat)
    simpa using w
theorem lt_yes {C : Bool → Nat → Prop} (c : C true n) : LT K tYes j ρ n C := lt_et ets_yes c
/-- a slot is forgotten -/
theorem sd_forget (i : Nat) (h : SD K t (ρ.set i .un) E) : SD K t ρ E := sd_weak (by simp) (fun k e q => by
  rcases mem_set q with ⟨_, e1, _⟩ | ⟨_, q⟩
  · exact .inl e1
  · exact .inr q) h
/-- all slots but the first two are forgotten -/
theorem sd_forget2 {a b : Sl} {r : Sls} (h : SD K t (a :: b :: List.replicate r.length .un) E) : SD K t (a :: b :: r) E := sd_weak (by simp) (fun k e q => by
  match k with
  | 0 => exact .inr q
  | 1 => exact .inr q
  | k + 2 =>
    have := List.mem_of_getElem? (show (List.replicate r.length Sl.un)[k]? = some e from q)
    rw [List.mem_replicate] at this
    exact .inl this.2) h
end
/-! ### texts of single signs -/
theorem cps_append (x y : Str) : (x ++ y).cps.toList = x.cps.toList ++ y.cps.toList := by
  show (x.cps ++ y.cps).toList = _
  simp
theorem cps_join0 : ∀ cs : List Nat, (Txt.join "" (cs.map fun c => (⟨#[c]⟩ : Str))).cps.toList = cs
  | [] => rfl
  | [c] => rfl
  | c :: d :: r => by
    have ih := cps_join0 (d :: r)
    rw [TL.join_eq] at ih ⊢
    show ((⟨#[c]⟩ : Str) ++ "" ++ Str.join "" ((d :: r).map fun c => (⟨#[c]⟩ : Str))).cps.toList = c :: d :: r
    rw [cps_append, cps_append, ih]
    rfl
theorem len_cps (x : Str) : x.length = x.cps.toList.length := by
  show x.cps.size = x.cps.toList.length
  rw [Array.length_toList]
theorem len_append (x y : Str) : (x ++ y).length = x.length + y.length := by
  rw [len_cps, cps_append, List.length_append, ← len_cps, ← len_cps]
theorem cutS_len (z : Str) (lo hi : Option Int) : (cutS z lo hi).length ≤ z.length := by
  rw [len_cps]
  unfold cutS
  have e : z.cps.toList.length = z.length := (len_cps z).symm
  simp only [List.length_take, List.length_drop, Array.length_toList] at *
  omega
end CJ

set_option Elab.async false
set_option linter.all false
set_option maxRecDepth 100000
set_option maxHeartbeats 4000000
/-! Pieces: names, pieces, ends, places of two ends. -/
namespace CJ
open PySem L2

/-! ### the plain side -/
def abc : Str := "abcdefghijklmnopqrstuvwxyz"
def isNm (x : Str) : Bool := (1 ≤ x.length && x.length ≤ 8) && x.cps.toList.all fun c => decide (c ∈ abc.cps.toList)
def nameD : D → Bool
  | .str x => isNm x
  | _ => false
def numD (i j : Int) : D → Bool
  | .int k => k == i || k == j
  | _ => false
def pairD (i j : Int) : D → Bool
  | .tuple [a, b] => nameD a && numD i j b
  | _ => false
/-- texts of a length that can be asked -/
def shortS (d : D) : Prop := ∀ x, d = .str x → x.length ≤ sizeLine
def shortP (d : D) : Prop := ∀ x y, d = .tuple [x, y] → shortS x
/-- an end: a name and a side (False: the tail, True: the head); None is nothing -/
abbrev En := Str × Bool
def enE (e : En) : D := .tuple [.str e.1, .int (if e.2 then 1 else 0)]
def enO : Option En → D
  | none => .tuple []
  | some e => enE e
/-- a piece: a name and a way (True: 1) -/
abbrev Pc := Str × Bool
def wayI (w : Bool) : Int := if w then 1 else -1
def enP (p : Pc) : D := .tuple [.str p.1, .int (wayI p.2)]
def beginsP (p : Pc) : En := (p.1, !p.2)
def endsP (p : Pc) : En := (p.1, p.2)
def otherE (e : En) : En := (e.1, !e.2)
def fromE (e : En) : Pc := (e.1, !e.2)

section
variable {K : PySem.W.Frag}
abbrev N_is_name : List Str := ["thing", "sign"]
abbrev t_is_name (K : PySem.W.Frag) : TS := (tSeq (tIfS (tOr (tNot (tB (tCB (rIsi K) (tCons (tVar 0) (tCons (tC (.ty "str")) tNil))))) (tNot (tTest (tChain (rLeP K) (rLeP K) (tC (.int 1)) (tCB (rLen K) (tCons (tVar 0) tNil)) (tC (.int 8)))))) (tRet (tC (.bl false))) tNext) (tRet (tCB (rAll K) (tCons (tLc (iAny K (tVar 0)) (gName 1) tYes (tOp (rInA K) (tVar 1) (tC (.str ("abcdefghijklmnopqrstuvwxyz" : Str)))) [1]) tNil))))
def sp_is_name (K : PySem.W.Frag) : Sp := spD K shortS (fun d => [d]) (fun d => .bool (nameD d))
theorem sd_is_name (d : D) (h : shortS d) : SD K (t_is_name K) (entry 2 [d]) (retD (.bool (nameD d))) := by
  cases d with
  | str x =>
    refine sd_seq (sd_if (et_or (et_not (et_B (ed_isi (T := "str") (by decide) (ed_var rfl)))) fun _ => et_not (et_test (ed_chain ed_int (ed_cb (ea_cons (ed_var rfl) ea_nil) (rc_lenS (h x rfl))) rd_leI (fun _ => ed_int) fun _ => rd_leI))) (fun hb => sd_ret ed_bl rfl ?_) (fun hb => sd_next ?_))
    · have e : isNm x = false := by
        simp [isTy, isTyN, tyN] at hb
        unfold isNm
        rw [Bool.and_eq_false_iff, Bool.and_eq_false_iff]
        left
        simp only [decide_eq_false_iff_not]
        omega
      show Rt.d (.bool false) = .d (.bool (isNm x))
      rw [e]
    · simp [isTy, isTyN, tyN] at hb
      have l8 : x.cps.toList.length ≤ 8 := by
        have := hb.2
        show x.cps.size ≤ 8
        have e : x.length = x.cps.size := rfl
        omega
      have hl : x.cps.toList.length < sizeLine := Nat.lt_of_le_of_lt l8 (by decide)
      refine sd_ret (ed_cb (ea_cons (EL.ed (el_is (el_lcY (fun c => .bool (decide (c ∈ abc.cps.toList))) (ei_anyS (ed_var rfl)) (fun c _ => eg_name) (by simp) (fun c _ => ed_op (ed_var rfl) ed_str rd_inS) hl) ?_)) ea_nil) (rc_all (bs := x.cps.toList.map fun c => decide (c ∈ abc.cps.toList)))) rfl ?_
      · rw [List.map_map]
        rfl
      · have e : isNm x = x.cps.toList.all fun c => decide (c ∈ abc.cps.toList) := by
          unfold isNm
          have e1 : (decide (1 ≤ x.length) && decide (x.length ≤ 8)) = true := by
            simp
            omega
          rw [e1, Bool.true_and]
        show Rt.d (.bool ((x.cps.toList.map fun c => decide (c ∈ abc.cps.toList)).all id)) = .d (.bool (isNm x))
        rw [e, List.all_map]
        rfl
  | _ =>
    exact sd_seq (sd_if (et_orT (et_notB (et_B (ed_isiB (T := "str") (b := false) (by decide) (ed_var rfl))))) (fun _ => sd_ret ed_bl rfl rfl) (fun hb => absurd hb (by decide)))

abbrev N_is_number : List Str := ["thing", "one", "other"]
abbrev t_is_number (K : PySem.W.Frag) : TS := (tRet (tAndV (tCB (rIsi K) (tCons (tVar 0) (tCons (tC (.ty "int")) tNil))) (tAndV (tNotV (tCB (rIsi K) (tCons (tVar 0) (tCons (tC (.ty "bool")) tNil)))) (tOrV (tOp (rEqP K) (tVar 0) (tVar 1)) (tOp (rEqP K) (tVar 0) (tVar 2))))))
def sp_is_number (K : PySem.W.Frag) : Sp := spD K (fun _ => True) (fun a : D × Int × Int => [a.1, .int a.2.1, .int a.2.2]) (fun a => .bool (numD a.2.1 a.2.2 a.1))
theorem sd_is_number (a : D × Int × Int) : SD K (t_is_number K) (entry 3 [a.1, .int a.2.1, .int a.2.2]) (retD (.bool (numD a.2.1 a.2.2 a.1))) := by
  obtain ⟨d, i, j⟩ := a
  cases d with
  | int k => exact sd_ret (ed_and (ed_is (ed_isi (T := "int") (by decide) (ed_var rfl)) rfl) fun _ => ed_and (ed_not (ed_isi (T := "bool") (by decide) (ed_var rfl))) fun _ => ed_or (ed_op (ed_var rfl) (ed_var rfl) rd_eqI) fun _ => ed_op (ed_var rfl) (ed_var rfl) rd_eqI) rfl rfl
  | bool b => exact sd_ret (ed_andT (ed_isiB (T := "int") (by decide) (ed_var rfl)) (ed_andF (ed_notB (ed_isi (T := "bool") (by decide) (ed_var rfl))))) rfl rfl
  | _ => exact sd_ret (ed_andF (ed_isiB (T := "int") (by decide) (ed_var rfl))) rfl rfl

abbrev N_is_piece : List Str := ["thing"]
abbrev t_is_piece (K : PySem.W.Frag) : TS := (tRet (tAndV (tCB (rIsi K) (tCons (tVar 0) (tCons (tC (.ty "tuple")) tNil))) (tAndV (tOp (rEqP K) (tCB (rLen K) (tCons (tVar 0) tNil)) (tC (.int 2))) (tAndV (tCall (sp_is_name K) [] E0 (tCons (tOp (rIx K) (tVar 0) (tC (.int 0))) tNil)) (tCall (sp_is_number K) [] E0 (tCons (tOp (rIx K) (tVar 0) (tC (.int 1))) (tCons (tC (.int 1)) (tCons (tUn (rU fun i => .int (-i)) (tC (.int 1))) tNil))))))))
def sp_is_piece (K : PySem.W.Frag) : Sp := spD K shortP (fun d => [d]) (fun d => .bool (pairD 1 (-1) d))
theorem sd_is_piece (d : D) (h : shortP d) : SD K (t_is_piece K) (entry 1 [d]) (retD (.bool (pairD 1 (-1) d))) := by
  cases d with
  | tuple ds =>
    match ds, h with
    | [x, y], h => exact sd_ret (ed_andT (ed_isiB (T := "tuple") (by decide) (ed_var rfl)) (ed_andT (ed_op (ed_cb (ea_cons (ed_var rfl) ea_nil) rc_lenT) ed_int rd_eqI) (ed_and (ed_call x (ea_cons (ed_op (ed_var rfl) ed_int (rd_ixT' rfl)) ea_nil) (h x y rfl)) fun _ => ed_call (y, 1, -1) (ea_cons (ed_op (ed_var rfl) ed_int (rd_ixT' rfl)) (ea_cons ed_int (ea_cons (rd_neg ed_int) ea_nil))) trivial))) rfl rfl
    | [], _ => exact sd_ret (ed_andT (ed_isiB (T := "tuple") (by decide) (ed_var rfl)) (ed_andF (ed_op (ed_cb (ea_cons (ed_var rfl) ea_nil) rc_lenT) ed_int rd_eqI))) rfl rfl
    | [x], _ => exact sd_ret (ed_andT (ed_isiB (T := "tuple") (by decide) (ed_var rfl)) (ed_andF (ed_op (ed_cb (ea_cons (ed_var rfl) ea_nil) rc_lenT) ed_int rd_eqI))) rfl rfl
    | x :: y :: z :: r, _ =>
      refine sd_ret (ed_andT (ed_isiB (T := "tuple") (by decide) (ed_var rfl)) (ed_andF (ed_is (ed_op (ed_cb (ea_cons (ed_var rfl) ea_nil) rc_lenT) ed_int rd_eqI) ?_))) rfl rfl
      rw [show (((x :: y :: z :: r).length : Int) == 2) = false by simp; omega]
  | _ => exact sd_ret (ed_andF (ed_isiB (T := "tuple") (by decide) (ed_var rfl))) rfl rfl
abbrev N_is_end : List Str := ["thing"]
abbrev t_is_end (K : PySem.W.Frag) : TS := (tRet (tAndV (tCB (rIsi K) (tCons (tVar 0) (tCons (tC (.ty "tuple")) tNil))) (tAndV (tOp (rEqP K) (tCB (rLen K) (tCons (tVar 0) tNil)) (tC (.int 2))) (tAndV (tCall (sp_is_name K) [] E0 (tCons (tOp (rIx K) (tVar 0) (tC (.int 0))) tNil)) (tCall (sp_is_number K) [] E0 (tCons (tOp (rIx K) (tVar 0) (tC (.int 1))) (tCons (tC (.int 0)) (tCons (tC (.int 1)) tNil))))))))
def sp_is_end (K : PySem.W.Frag) : Sp := spD K shortP (fun d => [d]) (fun d => .bool (pairD 0 1 d))
theorem sd_is_end (d : D) (h : shortP d) : SD K (t_is_end K) (entry 1 [d]) (retD (.bool (pairD 0 1 d))) := by
  cases d with
  | tuple ds =>
    match ds, h with
    | [x, y], h => exact sd_ret (ed_andT (ed_isiB (T := "tuple") (by decide) (ed_var rfl)) (ed_andT (ed_op (ed_cb (ea_cons (ed_var rfl) ea_nil) rc_lenT) ed_int rd_eqI) (ed_and (ed_call x (ea_cons (ed_op (ed_var rfl) ed_int (rd_ixT' rfl)) ea_nil) (h x y rfl)) fun _ => ed_call (y, 0, 1) (ea_cons (ed_op (ed_var rfl) ed_int (rd_ixT' rfl)) (ea_cons ed_int (ea_cons ed_int ea_nil))) trivial))) rfl rfl
    | [], _ => exact sd_ret (ed_andT (ed_isiB (T := "tuple") (by decide) (ed_var rfl)) (ed_andF (ed_op (ed_cb (ea_cons (ed_var rfl) ea_nil) rc_lenT) ed_int rd_eqI))) rfl rfl
    | [x], _ => exact sd_ret (ed_andT (ed_isiB (T := "tuple") (by decide) (ed_var rfl)) (ed_andF (ed_op (ed_cb (ea_cons (ed_var rfl) ea_nil) rc_lenT) ed_int rd_eqI))) rfl rfl
    | x :: y :: z :: r, _ =>
      refine sd_ret (ed_andT (ed_isiB (T := "tuple") (by decide) (ed_var rfl)) (ed_andF (ed_is (ed_op (ed_cb (ea_cons (ed_var rfl) ea_nil) rc_lenT) ed_int rd_eqI) ?_))) rfl rfl
      rw [show (((x :: y :: z :: r).length : Int) == 2) = false by simp; omega]
  | _ => exact sd_ret (ed_andF (ed_isiB (T := "tuple") (by decide) (ed_var rfl))) rfl rfl

abbrev N_begins : List Str := ["piece"]
abbrev t_begins (K : PySem.W.Frag) : TS := (tRet (tTup (tCons (tOp (rIx K) (tVar 0) (tC (.int 0))) (tCons (tCB (rInt1) (tCons (tOp (rEqP K) (tOp (rIx K) (tVar 0) (tC (.int 1))) (tUn (rU fun i => .int (-i)) (tC (.int 1)))) tNil)) tNil))))
abbrev N_ends : List Str := ["piece"]
abbrev t_ends (K : PySem.W.Frag) : TS := (tRet (tTup (tCons (tOp (rIx K) (tVar 0) (tC (.int 0))) (tCons (tCB (rInt1) (tCons (tOp (rEqP K) (tOp (rIx K) (tVar 0) (tC (.int 1))) (tC (.int 1))) tNil)) tNil))))
abbrev N_other_end : List Str := ["end"]
abbrev t_other_end (K : PySem.W.Frag) : TS := (tRet (tTup (tCons (tOp (rIx K) (tVar 0) (tC (.int 0))) (tCons (tOp (rI0 fun i j => .int (i - j)) (tC (.int 1)) (tOp (rIx K) (tVar 0) (tC (.int 1)))) tNil))))
abbrev N_piece_from : List Str := ["end"]
abbrev t_piece_from (K : PySem.W.Frag) : TS := (tRet (tTup (tCons (tOp (rIx K) (tVar 0) (tC (.int 0))) (tCons (tOp (rI0 fun i j => .int (i - j)) (tC (.int 1)) (tOp (rMulA) (tC (.int 2)) (tOp (rIx K) (tVar 0) (tC (.int 1))))) tNil))))
def sp_begins (K : PySem.W.Frag) : Sp := spD K (fun _ => True) (fun p : Pc => [enP p]) (fun p => enE (beginsP p))
theorem sd_begins (p : Pc) : SD K (t_begins K) (entry 1 [enP p]) (retD (enE (beginsP p))) := by
  obtain ⟨n, w⟩ := p
  refine sd_ret (ed_tup (ea_cons (ed_op (ed_var rfl) ed_int (rd_ixT' rfl)) (ea_cons (ed_cb (ea_cons (ed_op (ed_op (ed_var rfl) ed_int (rd_ixT' rfl)) (rd_neg ed_int) rd_eqI) ea_nil) rc_intB) ea_nil)) (szL 2 rfl)) rfl ?_
  cases w <;> rfl
def sp_ends (K : PySem.W.Frag) : Sp := spD K (fun _ => True) (fun p : Pc => [enP p]) (fun p => enE (endsP p))
theorem sd_ends (p : Pc) : SD K (t_ends K) (entry 1 [enP p]) (retD (enE (endsP p))) := by
  obtain ⟨n, w⟩ := p
  refine sd_ret (ed_tup (ea_cons (ed_op (ed_var rfl) ed_int (rd_ixT' rfl)) (ea_cons (ed_cb (ea_cons (ed_op (ed_op (ed_var rfl) ed_int (rd_ixT' rfl)) ed_int rd_eqI) ea_nil) rc_intB) ea_nil)) (szL 2 rfl)) rfl ?_
  cases w <;> rfl
def sp_other_end (K : PySem.W.Frag) : Sp := spD K (fun _ => True) (fun e : En => [enE e]) (fun e => enE (otherE e))
theorem sd_other_end (e : En) : SD K (t_other_end K) (entry 1 [enE e]) (retD (enE (otherE e))) := by
  obtain ⟨n, w⟩ := e
  refine sd_ret (ed_tup (ea_cons (ed_op (ed_var rfl) ed_int (rd_ixT' rfl)) (ea_cons (ed_op ed_int (ed_op (ed_var rfl) ed_int (rd_ixT' rfl)) rd_sub) ea_nil)) (szL 2 rfl)) rfl ?_
  cases w <;> rfl
def sp_piece_from (K : PySem.W.Frag) : Sp := spD K (fun _ => True) (fun e : En => [enE e]) (fun e => enP (fromE e))
theorem sd_piece_from (e : En) : SD K (t_piece_from K) (entry 1 [enE e]) (retD (enP (fromE e))) := by
  obtain ⟨n, w⟩ := e
  refine sd_ret (ed_tup (ea_cons (ed_op (ed_var rfl) ed_int (rd_ixT' rfl)) (ea_cons (ed_op ed_int (ed_op ed_int (ed_op (ed_var rfl) ed_int (rd_ixT' rfl)) (rd_mulI (.inl (by decide)))) rd_sub) ea_nil)) (szL 2 rfl)) rfl ?_
  cases w <;> rfl

/-! ### places of two -/
def ltO (a b : Option En) : Bool := PySem.W.dataLt (enO a) (enO b)
abbrev Pl := Option En × Option En
def plOf (a b : Option En) : Pl := (if ltO b a = true then b else a, if ltO a b = true then b else a)
def enPl (p : Pl) : D := .tuple [enO p.1, enO p.2]
theorem enO_plain (a : Option En) : (enO a).plain = true := by cases a <;> rfl
theorem enO_pure (a : Option En) : pureD (enO a) = true := by cases a <;> simp [enO, enE, pureD, pureL]
theorem enO_alike (a b : Option En) : PySem.W.alike (enO a) (enO b) = true := by
  cases a <;> cases b <;> simp [enO, enE, PySem.W.alike, PySem.W.alikeAll]
theorem enO_depth (a : Option En) : (enO a).depth ≤ 1 := by
  cases a <;> simp [enO, enE, PyData.depth, PyData.depthAll]
theorem enO_ne (a : Option En) : enO a ≠ .none := by cases a <;> (intro h; cases h)
abbrev N_place_of : List Str := ["one", "other"]
abbrev t_place_of (K : PySem.W.Frag) : TS := (tRet (tTup (tCons (tCB (rMin2 K) (tCons (tVar 0) (tCons (tVar 1) tNil))) (tCons (tCB (rMax2 K) (tCons (tVar 0) (tCons (tVar 1) tNil))) tNil))))
def sp_place_of (K : PySem.W.Frag) : Sp := spD K (fun _ => True) (fun a : Option En × Option En => [enO a.1, enO a.2]) (fun a => enPl (plOf a.1 a.2))
theorem sd_place_of (a : Option En × Option En) : SD K (t_place_of K) (entry 2 [enO a.1, enO a.2]) (retD (enPl (plOf a.1 a.2))) := by
  obtain ⟨a, b⟩ := a
  have al : PySem.W.AlikeAll [enO a, enO b] := by
    constructor
    · intro x hx y hy
      simp at hx hy
      rcases hx with rfl | rfl <;> rcases hy with rfl | rfl <;> exact enO_alike _ _
    · intro x hx
      simp at hx
      rcases hx with rfl | rfl <;> exact enO_ne _
  have hz : PyData.depthAll [enO a, enO b] ≤ 60 := by
    have h1 := enO_depth a
    have h2 := enO_depth b
    simp only [PyData.depthAll]
    omega
  have h := ed_tup (K := K) (ea_cons (ed_cb (ea_cons (ed_var (i := 0) (ρ := allR (entry 2 [enO a, enO b])) rfl) (ea_cons (ed_var (i := 1) rfl) ea_nil)) (rc_min2 (enO_plain a) (enO_plain b) al hz)) (ea_cons (ed_cb (ea_cons (ed_var (i := 0) rfl) (ea_cons (ed_var (i := 1) rfl) ea_nil)) (rc_max2 (enO_plain a) (enO_plain b) al hz)) ea_nil)) (szL 2 rfl)
  have e : PyData.tuple [if PySem.W.dataLt (enO b) (enO a) = true then enO b else enO a, if PySem.W.dataLt (enO a) (enO b) = true then enO b else enO a] = enPl (plOf a b) := by
    unfold enPl plOf ltO
    congr 1
    congr 1
    · split <;> rfl
    · congr 1
      split <;> rfl
  refine sd_ret (ed_is h e) ?_ rfl
  rw [← e]
  simp only [pureD, pureL_cons, pureL, Bool.and_true, Bool.and_eq_true]
  constructor <;> split <;> exact enO_pure _
end
end CJ

set_option Elab.async false
set_option linter.all false
set_option maxRecDepth 100000
set_option maxHeartbeats 4000000
/-! The draw: what every law has. -/
namespace CJ
open PySem L2
section
variable {K : PySem.W.Frag}
abbrev N_law_draw : List Str := ["_law_script", "_law_at", "_law_many", "_law_k", "_law_cells", "_law_number"]
abbrev t_law_draw (K : PySem.W.Frag) : TS := (tSeq (tAsg (tOp (rIx K) (tVar 1) (tC (.int 0))) (gName 3)) (tSeq (tAsg (tOp (rAddA K) (tVar 3) (tC (.int 1))) (gSub (tVar 1) (tC (.int 0)) rSetL)) (tSeq (tAsg (tOp (rAddA K) (tVar 0) (tOp (rMulA) (tLst (tCons (tC (.int 0)) tNil)) (tCB (rInt1) (tCons (tOp (rEqP K) (tVar 0) (tLst tNil)) tNil)))) (gName 4)) (tSeq (tAsg (tOp (rI (fun _ j => 0 < j) fun i j => .int (i % j)) (tOp (rMulA) (tOp (rAddA K) (tOp (rAddA K) (tOp (rI (fun _ j => 0 < j) fun i j => .int (i % j)) (tOp (rIx K) (tVar 4) (tOp (rI (fun _ j => 0 < j) fun i j => .int (i % j)) (tVar 3) (tCB (rLen K) (tCons (tVar 4) tNil)))) (tC (.int 1000000007))) (tOp (rMulA) (tC (.int 31)) (tVar 3))) (tC (.int 17))) (tC (.int 48271))) (tC (.int 2147483647))) (gName 5)) (tRet (tOp (rI (fun _ j => 0 < j) fun i j => .int (i % j)) (tOp (rI CDiv fun i j => .int (i / j)) (tOp (rI (fun _ j => 0 < j) fun i j => .int (i % j)) (tOp (rMulA) (tVar 5) (tOp (rAddA K) (tOp (rMulA) (tVar 3) (tVar 3)) (tC (.int 16807)))) (tC (.int 2147483629))) (tC (.int 4096))) (tVar 2)))))))
def drawP (m : Int) (d : D) : Prop := ∃ r : Int, d = .int r ∧ 0 ≤ r ∧ r < m
def sp_law_draw (K : PySem.W.Frag) : Sp := spN K (fun m : Int => 0 < m) (fun m => [.int m]) (fun _ => 1) drawP
theorem eqv_nil (cs : List Int) : PyData.eqv (.list (cs.map .int)) (.list []) = decide (cs = []) := by
  cases cs <;> simp [PyData.eqv, PyData.eqvAll]
theorem ints_plain (cs : List Int) : (PyData.list (cs.map .int)).plain = true := by
  show PyData.plainAll _ = true
  rw [plainL_iff]
  intro d hd
  obtain ⟨i, _, rfl⟩ := List.mem_map.mp hd
  rfl
theorem el_cells {ρ : Rho} (cs : List Int) (hc : cs.length ≤ 63) (hr : ρ[0]? = some (some (.list (cs.map .int)))) : EL K (tOp (rAddA K) (tVar 0) (tOp rMulA (tLst (tCons (tC (.int 0)) tNil)) (tCB rInt1 (tCons (tOp (rEqP K) (tVar 0) (tLst tNil)) tNil)))) ρ ((cs ++ if cs = [] then [0] else []).map PyData.int) := by
  have hk : ED K (tCB rInt1 (tCons (tOp (rEqP K) (tVar 0) (tLst tNil)) tNil)) ρ (.int (if decide (cs = []) = true then 1 else 0)) := ed_cb (ea_cons (ed_is (ed_op (ed_var hr) (EL.ed (el_lst ea_nil (szL 0 rfl))) (rd_eqP (ints_plain cs) rfl (by simp [PyData.depth, PyData.depthAll]))) (by rw [eqv_nil])) ea_nil) rc_intB
  refine el_is (el_op (ed_var hr) (EL.ed (el_repF (el_lst (ea_cons ed_int ea_nil) (szL 1 rfl)) hk (by split <;> decide) (by split <;> decide) (by split <;> decide))) (rl_catL ?_)) ?_
  · rw [List.length_map]
    have := sizeLine_eq
    split <;> simp <;> omega
  · by_cases h : cs = []
    · subst h
      rfl
    · simp [h]
theorem sd_law_draw (m : Int) (cs : List Int) (n : Nat) (hm : 0 < m) (hc : cs.length ≤ 63) (hn : 1 ≤ n) : SD K (t_law_draw K) (entryN 3 cs n [.int m]) (retN n 1 (drawP m)) := by
  obtain ⟨n, rfl⟩ : ∃ k, n = k + 1 := ⟨n - 1, by omega⟩
  refine sd_seq (ls_get (j := 1) rfl rfl fun k h0 hk => ?_)
  refine sd_seq (ls_put (j := 1) (m := n) (k := k + 1) rfl rfl (ed_op (ed_var rfl) ed_int rd_addI) (by omega) (by omega) ?_)
  refine sd_seq (sd_setL (el_cells cs hc rfl) ?_)
  refine sd_still (i := 4) rfl ?_
  generalize hy : (cs ++ if cs = [] then [0] else []) = ys
  have hy0 : 0 < ys.length := by
    subst hy
    cases cs <;> simp
  have hy1 : ys.length ≤ 64 := by
    subst hy
    rw [List.length_append]
    split <;> simp <;> omega
  have hkl : 0 ≤ k % (ys.length : Int) ∧ k % (ys.length : Int) < ys.length := ⟨Int.emod_nonneg _ (by omega), Int.emod_lt_of_pos _ (by omega)⟩
  have hat : atI (ys.map PyData.int) (k % (ys.length : Int)) = some (.int (ys.getD (k % (ys.length : Int)).toNat 0)) := by
    have h1 : ixN (ys.map PyData.int).length (k % (ys.length : Int)) = some (k % (ys.length : Int)).toNat := by
      unfold ixN
      rw [List.length_map, if_pos hkl.1, if_pos (by omega)]
    unfold atI
    rw [h1]
    show (ys.map PyData.int)[(k % (ys.length : Int)).toNat]? = _
    rw [List.getElem?_map, List.getElem?_eq_getElem (by omega)]
    simp [List.getD, List.getElem?_eq_getElem (show (k % (ys.length : Int)).toNat < ys.length by omega)]
  have hlen : ((ys.map PyData.int).length : Int) = (ys.length : Int) := by rw [List.length_map]
  have hc31 : CMul 31 k := .inl ⟨by decide, by decide⟩
  have hkk : CMul k k := .inl ⟨by omega, by omega⟩
  generalize hc0 : ys.getD (k % (ys.length : Int)).toNat 0 = c0 at hat
  have hm1 : 0 ≤ c0 % 1000000007 ∧ c0 % 1000000007 < 1000000007 := ⟨Int.emod_nonneg _ (by decide), Int.emod_lt_of_pos _ (by decide)⟩
  have hmul : CMul (c0 % 1000000007 + 31 * k + 17) 48271 := .inr ⟨by decide, by decide⟩
  refine sd_seq (sd_set (ed_op (ed_op (ed_op (ed_op (ed_op (ed_op (ed_var rfl) (ed_op (ed_var rfl) (ed_is (ed_cb (ea_cons (ed_var rfl) ea_nil) rc_lenL) (by rw [hlen])) (rd_mod (by omega))) (rd_ixL' hat)) ed_int (rd_mod (by decide))) (ed_op ed_int (ed_var rfl) (rd_mulI hc31)) rd_addI) ed_int rd_addI) ed_int (rd_mulI hmul)) ed_int (rd_mod (by decide))) rfl ?_)
  generalize hv : (c0 % 1000000007 + 31 * k + 17) * 48271 % 2147483647 = v
  have hv1 : 0 ≤ v ∧ v < 2147483647 := by
    subst hv
    exact ⟨Int.emod_nonneg _ (by decide), Int.emod_lt_of_pos _ (by decide)⟩
  have hmul2 : CMul v (k * k + 16807) := .inl ⟨by omega, by omega⟩
  refine sd_ret (d := .int (v * (k * k + 16807) % 2147483629 / 4096 % m)) (ed_op (ed_op (ed_op (ed_op (ed_var rfl) (ed_op (ed_op (ed_var rfl) (ed_var rfl) (rd_mulI hkk)) ed_int rd_addI) (rd_mulI hmul2)) ed_int (rd_mod (by decide))) ed_int (rd_fdiv ⟨by decide, by decide⟩)) (ed_var rfl) (rd_mod hm)) rfl ?_
  exact ⟨n, rfl, Nat.le_refl _, .inl ⟨_, rfl, _, rfl, Int.emod_nonneg _ (by omega), Int.emod_lt_of_pos _ hm⟩⟩
end
end CJ

set_option Elab.async false
set_option linter.all false
set_option maxRecDepth 100000
set_option maxHeartbeats 4000000
/-! k01: the law read. -/
namespace CJ
open PySem L2
section
variable {K : PySem.W.Frag} {ρ : Sls} {te : TE} {n : Nat}
/-- a draw in an expression, the script in slot 0, the cell in slot 1 -/
theorem lx_draw {m : Int} {cs : List Int} {C : D → Nat → Prop} (hs : (froz ρ)[0]? = some (some (.list (cs.map .int)))) (hc : cs.length ≤ 63) (hn : 1 ≤ n) (hm : 0 < m) (h : ED K te (froz ρ) (.int m)) (hC : ∀ r : Int, 0 ≤ r → r < m → C (.int r) (n - 1)) :
    LX K (tCall (sp_law_draw K) [] E0 (tCons (tVar 0) (tCons (tVar 1) (tCons te tNil)))) 1 ρ n C :=
  lx_call cs hs hc (la_ea (ea_cons h ea_nil) ⟨m, hm, rfl, hn, fun d ⟨r, e, h0, h1⟩ => e ▸ hC r h0 h1⟩)
theorem abc_len : abc.cps.toList.length = 26 := by decide +kernel
theorem abc_short : abc.length ≤ sizeLine := by
  have := sizeLine_eq
  rw [len_cps, abc_len]
  omega
theorem abc_at {r : Int} (h0 : 0 ≤ r) (h1 : r < 26) : ∃ c, atI abc.cps.toList r = some c ∧ c ∈ abc.cps.toList := by
  have hl : r.toNat < abc.cps.toList.length := by
    rw [abc_len]
    omega
  refine ⟨abc.cps.toList[r.toNat], ?_, List.getElem_mem hl⟩
  have := atI_nat (List.getElem?_eq_getElem hl)
  rwa [Int.toNat_of_nonneg h0] at this
/-! ### a name -/
abbrev N_law_name : List Str := ["_law_script", "_law_at", "_law_letters", "_law_k"]
abbrev t_law_name (K : PySem.W.Frag) : TS := (tSeq (tAsg (tC (.str ("abcdefghijklmnopqrstuvwxyz" : Str))) (gName 2)) (tRet (tM1 (rJoin K) (tC (.str ("" : Str))) (tLc (iRng1 (tCons (tOp (rAddA K) (tC (.int 1)) (tCall (sp_law_draw K) [] E0 (tCons (tVar 0) (tCons (tVar 1) (tCons (tC (.int 8)) tNil))))) tNil)) (gName 3) tYes (tOp (rIx K) (tVar 2) (tCall (sp_law_draw K) [] E0 (tCons (tVar 0) (tCons (tVar 1) (tCons (tC (.int 26)) tNil))))) [3]))))
def nameP (d : D) : Prop := ∃ x : Str, d = .str x ∧ isNm x = true
def sp_law_name (K : PySem.W.Frag) : Sp := spN K (fun _ : Unit => True) (fun _ => []) (fun _ => 9) (fun _ => nameP)
theorem sd_law_name (cs : List Int) (n : Nat) (hc : cs.length ≤ 63) (hn : 9 ≤ n) : SD K (t_law_name K) (entryN 2 cs n []) (retN n 9 nameP) := by
  refine sd_seq (sd_set ed_str rfl ?_)
  refine ls_ret (j := 1) (n := n) rfl rfl ?_
  refine lx_m1 (a := "") ed_str ?_
  refine LL.lx (ll_lc (by decide) (li_rng1 (lx_op (lx_ed ed_int (lx_draw (cs := cs) rfl hc (by omega) (by decide) ed_int fun r h0 h1 => ?_)))))
  refine ⟨_, rd_addI, _, rfl, ⟨by omega, by omega⟩, ?_⟩
  have hsl := sizeLine_eq
  refine ⟨by rw [List.length_map, List.length_range]; omega, fun k acc m => (∃ ys : List Nat, acc = ys.map (fun c => PyData.str ⟨#[c]⟩) ∧ ys.length = k ∧ ∀ c ∈ ys, c ∈ abc.cps.toList) ∧ n ≤ m + 1 + k ∧ k ≤ 8, ⟨⟨[], rfl, rfl, by simp⟩, by omega, by omega⟩, ?_, ?_⟩
  · rintro k x acc m hk ⟨⟨ys, rfl, hy, hy2⟩, hm, hk8⟩ _
    have hk1 : k < (1 + r).toNat := by
      have := (List.getElem?_eq_some_iff.mp hk).1
      rwa [List.length_map, List.length_range] at this
    refine lt_yes ?_
    rw [if_pos rfl]
    refine lx_op (lx_ed (ed_var rfl) (lx_draw (cs := cs) rfl hc (by omega) (by decide) ed_int fun q q0 q1 => ?_))
    obtain ⟨c, hat, hin⟩ := abc_at q0 q1
    refine ⟨_, rd_ixS' abc_short hat, ⟨ys ++ [c], by rw [List.map_append]; rfl, by rw [List.length_append, hy]; rfl, fun z hz => ?_⟩, by omega, by omega⟩
    rcases List.mem_append.mp hz with hz | hz
    · exact hy2 z hz
    · rw [List.mem_singleton.mp hz]
      exact hin
  · rintro acc m ⟨⟨ys, rfl, hy, hy2⟩, hm, hk8⟩
    rw [List.length_map, List.length_range] at hy hm hk8
    have e : ys.map (fun c => PyData.str ⟨#[c]⟩) = (ys.map fun c => (⟨#[c]⟩ : Str)).map PyData.str := by rw [List.map_map]; rfl
    have e1 : ∀ zs : List Nat, ((zs.map fun c => (⟨#[c]⟩ : Str)).map (·.length)).sum = zs.length := fun zs => by
      induction zs with
      | nil => rfl
      | cons z zs ih =>
        rw [List.map_cons, List.map_cons, List.sum_cons, ih, List.length_cons, show Str.length ⟨#[z]⟩ = 1 from rfl]
        omega
    refine ⟨.str (Txt.join "" (ys.map fun c => (⟨#[c]⟩ : Str))), ?_, m, rfl, by omega, .inl ⟨_, rfl, _, rfl, ?_⟩⟩
    · rw [e]
      refine rd_join ?_
      rw [e1, show Str.length "" = 0 from rfl, Nat.mul_zero]
      omega
    · have hj := cps_join0 ys
      unfold isNm
      rw [len_cps, hj, Bool.and_eq_true, Bool.and_eq_true]
      refine ⟨⟨by rw [decide_eq_true_eq]; omega, by rw [decide_eq_true_eq]; omega⟩, List.all_eq_true.mpr fun c hcc => decide_eq_true (hy2 c hcc)⟩
/-! ### an odd thing -/
/-- texts of a length that can be asked -/
def short : D → Prop
  | .str x => x.length ≤ 1000
  | .tuple [.str x, _] => x.length ≤ 1000
  | _ => True
theorem short_S {d : D} (h : short d) : shortS d := fun x e => by
  subst e
  have : x.length ≤ 1000 := h
  have := sizeLine_eq
  omega
theorem short_P {d : D} (h : short d) : shortP d := fun a b e x e2 => by
  subst e e2
  have : x.length ≤ 1000 := h
  have := sizeLine_eq
  omega
abbrev N_law_odd : List Str := ["_law_script", "_law_at", "_law_name_here", "_law_some"]
abbrev t_law_odd (K : PySem.W.Frag) : TS := (tSeq (tAsg (tLst (tCons (tOp (rAddA K) (tVar 2) (tC (.str ("abcdefgh" : Str)))) (tCons (tC (.str ("" : Str))) (tCons (tOp (rAddA K) (tSl (rSlAny K) (tVar 2) tNoPart (tPart (tUn (rU fun i => .int (-i)) (tC (.int 1))))) (tC (.str ("A" : Str)))) (tCons (tOp (rAddA K) (tSl (rSlAny K) (tVar 2) tNoPart (tPart (tUn (rU fun i => .int (-i)) (tC (.int 1))))) (tC (.str (" " : Str)))) (tCons (tOp (rAddA K) (tSl (rSlAny K) (tVar 2) tNoPart (tPart (tUn (rU fun i => .int (-i)) (tC (.int 1))))) (tC (.str ("1" : Str)))) (tCons (tC .non) (tCons (tC (.int 5)) (tCons (tLst (tCons (tVar 2) tNil)) (tCons (tTup (tCons (tVar 2) tNil)) (tCons (tTup tNil) tNil))))))))))) (gName 3)) (tSeq (tAsg (tOp (rAddA K) (tVar 3) (tLst (tCons (tTup (tCons (tVar 2) (tCons (tC (.int 2)) tNil))) (tCons (tTup (tCons (tVar 2) (tCons (tUn (rU fun i => .int (-i)) (tC (.int 1))) tNil))) (tCons (tTup (tCons (tVar 2) (tCons (tC (.int 0)) tNil))) (tCons (tTup (tCons (tVar 2) (tCons (tC (.int 1)) tNil))) (tCons (tTup (tCons (tVar 2) (tCons (tC (.bl true)) tNil))) (tCons (tTup (tCons (tVar 2) (tCons (tC (.bl false)) tNil))) (tCons (tTup (tCons (tVar 2) (tCons (tUn (rU fun i => .int (-i)) (tC (.int 2))) tNil))) (tCons (tLst (tCons (tVar 2) (tCons (tC (.int 1)) tNil))) tNil)))))))))) (gName 3)) (tSeq (tAsg (tOp (rAddA K) (tVar 3) (tLst (tCons (tTup (tCons (tVar 2) (tCons (tC (.int 0)) (tCons (tC (.int 0)) tNil)))) (tCons (tTup (tCons (tC (.str ("" : Str))) (tCons (tC (.int 1)) tNil))) (tCons (tTup (tCons (tC (.str ("" : Str))) (tCons (tC (.int 0)) tNil))) (tCons (tTup (tCons (tM0 rUpper (tVar 2)) (tCons (tC (.int 1)) tNil))) (tCons (tTup (tCons (tM0 rUpper (tVar 2)) (tCons (tC (.int 0)) tNil))) (tCons (tTup (tCons (tC (.int 5)) (tCons (tC (.int 1)) tNil))) (tCons (tTup (tCons (tVar 2) (tCons (tC (.str ("1" : Str))) tNil))) tNil))))))))) (gName 3)) (tSeq (tDrop (tBM K "list" (rAppend) (tVar 3) (tCons (tTup (tCons (tVar 2) (tCons (tC .non) tNil))) tNil))) (tSeq (tAsg (tOp (rAddA K) (tVar 3) (tLst (tCons (tTup (tCons (tC (.int 0)) (tCons (tVar 2) tNil))) (tCons (tDisp [((tVar 2), (tC (.int 1)))]) (tCons (tTup (tCons (tTup (tCons (tVar 2) (tCons (tC (.int 1)) tNil))) (tCons (tC (.int 1)) tNil))) (tCons (tOp (rAddA K) (tVar 2) (tC (.str ("\n" : Str)))) (tCons (tTup (tCons (tOp (rAddA K) (tVar 2) (tC (.str ("\n" : Str)))) (tCons (tC (.int 0)) tNil))) (tCons (tOp (rMulA) (tSl (rSlAny K) (tVar 2) tNoPart (tPart (tC (.int 1)))) (tC (.int 8))) (tCons (tOp (rMulA) (tSl (rSlAny K) (tVar 2) tNoPart (tPart (tC (.int 1)))) (tC (.int 9))) tNil))))))))) (gName 3)) (tRet (tOp (rIx K) (tVar 3) (tCall (sp_law_draw K) [] E0 (tCons (tVar 0) (tCons (tVar 1) (tCons (tCB (rLen K) (tCons (tVar 3) tNil)) tNil)))))))))))
def sp_law_odd (K : PySem.W.Frag) : Sp := spN K (fun x : Str => x.length ≤ 8) (fun x => [.str x]) (fun _ => 1) (fun _ => short)
theorem odd_ret (cs : List Int) (n : Nat) (x : Str) (hc : cs.length ≤ 63) (hn : 1 ≤ n) (L : List D) (hL : L.length = 33) (h : ∀ d ∈ L, short d) :
    SD K (tRet (tOp (rIx K) (tVar 3) (tCall (sp_law_draw K) [] E0 (tCons (tVar 0) (tCons (tVar 1) (tCons (tCB (rLen K) (tCons (tVar 3) tNil)) tNil)))))) [.d (.list (cs.map .int)), .cell n, .d (.str x), .d (.list L)] (retN n 1 short) := by
  refine ls_ret (j := 1) (n := n) rfl rfl (lx_op (lx_ed (ed_var rfl) (lx_draw (m := 33) (cs := cs) rfl hc hn (by decide) (ed_is (ed_cb (ea_cons (ed_var rfl) ea_nil) rc_lenL) (by rw [hL]; rfl)) fun r h0 h1 => ?_)))
  have hl : r.toNat < L.length := by omega
  have hat := atI_nat (List.getElem?_eq_getElem hl)
  rw [Int.toNat_of_nonneg h0] at hat
  exact ⟨L[r.toNat], rd_ixL' hat, n - 1, rfl, by omega, .inl ⟨_, rfl, h _ (List.getElem_mem hl)⟩⟩
theorem sd_law_odd (x : Str) (cs : List Int) (n : Nat) (hx : x.length ≤ 8) (hc : cs.length ≤ 63) (hn : 1 ≤ n) : SD K (t_law_odd K) (entryN 1 cs n [.str x]) (retN n 1 short) := by
  have hsl := sizeLine_eq
  have c1 : ∀ lo hi, (cutS x lo hi).length ≤ 8 := fun lo hi => Nat.le_trans (cutS_len x lo hi) hx
  have up : (Txt.upper x).length ≤ 1000 := by
    have := PyProof.Rows.len_upper x
    omega
  have l8 : ("abcdefgh" : Str).length = 8 := rfl
  have l1 : ∀ a : Str, a.length ≤ 8 → ∀ b : Str, b.length ≤ 8 → (a ++ b).length ≤ 1000 := fun a ha b hb => by
    rw [len_append]
    omega
  have l2 : ∀ a : Str, a.length ≤ 8 → ∀ b : Str, b.length ≤ 8 → a.length + b.length ≤ sizeLine := fun a ha b hb => by omega
  have ux : x.length ≤ 1000 := by omega
  have hz : x.length ≤ sizeLine := by omega
  refine sd_seq (sd_setL (el_lst (ea_cons (ed_op (ed_var rfl) ed_str (rd_addT (l2 _ hx _ (by decide)))) (ea_cons ed_str (ea_cons (ed_op (ed_sl (ed_var rfl) eo_none (eo_some (rd_neg ed_int)) (rs_strA hz)) ed_str (rd_addT (l2 _ (c1 _ _) _ (by decide)))) (ea_cons (ed_op (ed_sl (ed_var rfl) eo_none (eo_some (rd_neg ed_int)) (rs_strA hz)) ed_str (rd_addT (l2 _ (c1 _ _) _ (by decide)))) (ea_cons (ed_op (ed_sl (ed_var rfl) eo_none (eo_some (rd_neg ed_int)) (rs_strA hz)) ed_str (rd_addT (l2 _ (c1 _ _) _ (by decide)))) (ea_cons ed_non (ea_cons ed_int (ea_cons (EL.ed (el_lst (ea_cons (ed_var rfl) ea_nil) (szL 1 rfl))) (ea_cons (ed_tup (ea_cons (ed_var rfl) ea_nil) (szL 1 rfl)) (ea_cons (ed_tup ea_nil (szL 0 rfl)) ea_nil)))))))))) (szL 10 rfl)) ?_)
  refine sd_still (i := 3) rfl ?_
  refine sd_seq (sd_setL (el_op (ed_var rfl) (EL.ed (el_lst (ea_cons (ed_tup (ea_cons (ed_var rfl) (ea_cons ed_int ea_nil)) (szL 2 rfl)) (ea_cons (ed_tup (ea_cons (ed_var rfl) (ea_cons (rd_neg ed_int) ea_nil)) (szL 2 rfl)) (ea_cons (ed_tup (ea_cons (ed_var rfl) (ea_cons ed_int ea_nil)) (szL 2 rfl)) (ea_cons (ed_tup (ea_cons (ed_var rfl) (ea_cons ed_int ea_nil)) (szL 2 rfl)) (ea_cons (ed_tup (ea_cons (ed_var rfl) (ea_cons ed_bl ea_nil)) (szL 2 rfl)) (ea_cons (ed_tup (ea_cons (ed_var rfl) (ea_cons ed_bl ea_nil)) (szL 2 rfl)) (ea_cons (ed_tup (ea_cons (ed_var rfl) (ea_cons (rd_neg ed_int) ea_nil)) (szL 2 rfl)) (ea_cons (EL.ed (el_lst (ea_cons (ed_var rfl) (ea_cons ed_int ea_nil)) (szL 2 rfl))) ea_nil)))))))) (szL 8 rfl))) (rl_catL (show 10 + 8 ≤ sizeLine by omega))) ?_)
  refine sd_still (i := 3) rfl ?_
  refine sd_seq (sd_setL (el_op (ed_var rfl) (EL.ed (el_lst (ea_cons (ed_tup (ea_cons (ed_var rfl) (ea_cons ed_int (ea_cons ed_int ea_nil))) (szL 3 rfl)) (ea_cons (ed_tup (ea_cons ed_str (ea_cons ed_int ea_nil)) (szL 2 rfl)) (ea_cons (ed_tup (ea_cons ed_str (ea_cons ed_int ea_nil)) (szL 2 rfl)) (ea_cons (ed_tup (ea_cons (ed_upper (ed_var rfl) ux) (ea_cons ed_int ea_nil)) (szL 2 rfl)) (ea_cons (ed_tup (ea_cons (ed_upper (ed_var rfl) ux) (ea_cons ed_int ea_nil)) (szL 2 rfl)) (ea_cons (ed_tup (ea_cons ed_int (ea_cons ed_int ea_nil)) (szL 2 rfl)) (ea_cons (ed_tup (ea_cons (ed_var rfl) (ea_cons ed_str ea_nil)) (szL 2 rfl)) ea_nil))))))) (szL 7 rfl))) (rl_catL (show 18 + 7 ≤ sizeLine by omega))) ?_)
  refine sd_seq (sd_appF (i := 3) rfl (ed_tup (ea_cons (ed_var rfl) (ea_cons ed_non ea_nil)) (szL 2 rfl)) (show 25 < sizeLine by omega) ?_)
  refine sd_still (i := 3) rfl ?_
  refine sd_seq (sd_setL (el_op (ed_var rfl) (EL.ed (el_lst (ea_cons (ed_tup (ea_cons ed_int (ea_cons (ed_var rfl) ea_nil)) (szL 2 rfl)) (ea_cons (ed_disp1 (ed_var rfl) ed_int) (ea_cons (ed_tup (ea_cons (ed_tup (ea_cons (ed_var rfl) (ea_cons ed_int ea_nil)) (szL 2 rfl)) (ea_cons ed_int ea_nil)) (szL 2 rfl)) (ea_cons (ed_op (ed_var rfl) ed_str (rd_addT (l2 _ hx _ (by decide)))) (ea_cons (ed_tup (ea_cons (ed_op (ed_var rfl) ed_str (rd_addT (l2 _ hx _ (by decide)))) (ea_cons ed_int ea_nil)) (szL 2 rfl)) (ea_cons (ed_op (ed_sl (ed_var rfl) eo_none (eo_some ed_int) (rs_strA hz)) ed_int (rd_repS (by decide) (by decide) (Nat.le_trans (c1 _ _) (by decide)))) (ea_cons (ed_op (ed_sl (ed_var rfl) eo_none (eo_some ed_int) (rs_strA hz)) ed_int (rd_repS (by decide) (by decide) (Nat.le_trans (c1 _ _) (by decide)))) ea_nil))))))) (szL 7 rfl))) (rl_catL (show 26 + 7 ≤ sizeLine by omega))) ?_)
  refine sd_still (i := 3) rfl ?_
  refine odd_ret cs n x hc hn _ rfl ?_
  have d8 : ("abcdefgh" : Str).length ≤ 8 := by decide
  have e1 : ∀ a : Str, a.length = 1 → a.length ≤ 8 := fun a h => by omega
  have r8 : ∀ k : Int, 2 ≤ k → k ≤ 64 → (repS (cutS x none (some 1)) k).length ≤ 1000 := fun k h2 h64 => by
    rw [repS_len (by omega)]
    have := Nat.mul_le_mul (show k.toNat ≤ 64 by omega) (c1 none (some 1))
    omega
  refine List.forall_mem_append.mpr ⟨List.forall_mem_append.mpr ⟨List.forall_mem_append.mpr ⟨List.forall_mem_append.mpr ⟨?_, ?_⟩, ?_⟩, ?_⟩, ?_⟩
  · simp only [List.forall_mem_cons]
    exact ⟨l1 _ hx _ d8, (by decide : (0 : Nat) ≤ 1000), l1 _ (c1 _ _) _ (e1 _ rfl), l1 _ (c1 _ _) _ (e1 _ rfl), l1 _ (c1 _ _) _ (e1 _ rfl), trivial, trivial, trivial, trivial, trivial, fun _ h => nomatch h⟩
  · simp only [List.forall_mem_cons]
    exact ⟨ux, ux, ux, ux, ux, ux, ux, trivial, fun _ h => nomatch h⟩
  · simp only [List.forall_mem_cons]
    exact ⟨trivial, (by decide : (0 : Nat) ≤ 1000), (by decide : (0 : Nat) ≤ 1000), up, up, trivial, ux, fun _ h => nomatch h⟩
  · simp only [List.forall_mem_cons]
    exact ⟨ux, fun _ h => nomatch h⟩
  · simp only [List.forall_mem_cons]
    exact ⟨trivial, trivial, trivial, l1 _ hx _ (e1 _ rfl), l1 _ hx _ (e1 _ rfl), r8 8 (by decide) (by decide), r8 9 (by decide) (by decide), fun _ h => nomatch h⟩
end
end CJ

set_option Elab.async false
set_option linter.all false
set_option maxRecDepth 100000
set_option maxHeartbeats 4000000
/-! k01: the law's own looks. -/
namespace CJ
open PySem L2
theorem abc_range : abc.cps.toList = List.range' 97 26 := by decide +kernel
theorem mem_abc (c : Nat) : c ∈ abc.cps.toList ↔ 97 ≤ c ∧ c ≤ 122 := by
  rw [abc_range, List.mem_range'_1]
  omega
def offS (c : Nat) : Bool := decide ((⟨#[c]⟩ : Str).cps.toList < ("a" : Str).cps.toList) || decide (("z" : Str).cps.toList < (⟨#[c]⟩ : Str).cps.toList)
theorem offS_eq (c : Nat) : offS c = !decide (c ∈ abc.cps.toList) := by
  unfold offS
  have h1 : ((⟨#[c]⟩ : Str).cps.toList < ("a" : Str).cps.toList) ↔ c < 97 := by
    show [c] < [97] ↔ c < 97
    rw [List.cons_lt_cons_iff]
    simp
  have h2 : (("z" : Str).cps.toList < (⟨#[c]⟩ : Str).cps.toList) ↔ 122 < c := by
    show [122] < [c] ↔ 122 < c
    rw [List.cons_lt_cons_iff]
    simp
  rw [Bool.eq_iff_iff]
  simp only [Bool.or_eq_true, decide_eq_true_eq, Bool.not_eq_true', decide_eq_false_iff_not, h1, h2, mem_abc]
  omega
theorem eqv_nilL (ds : List D) : PyData.eqv (.list ds) (.list []) = ds.isEmpty := by
  cases ds <;> simp [PyData.eqv, PyData.eqvAll]
section
variable {K : PySem.W.Frag}
abbrev N_law_is_name : List Str := ["_law_thing", "_law_sign"]
abbrev t_law_is_name (K : PySem.W.Frag) : TS := (tSeq (tIfS (tOr (tNot (tB (tCB (rIsi K) (tCons (tVar 0) (tCons (tC (.ty "str")) tNil))))) (tOr (tTest (tOp (rLtP K) (tCB (rLen K) (tCons (tVar 0) tNil)) (tC (.int 1)))) (tTest (tOp (rGtP K) (tCB (rLen K) (tCons (tVar 0) tNil)) (tC (.int 8)))))) (tRet (tC (.bl false))) tNext) (tRet (tOp (rEqP K) (tLc (iAny K (tVar 0)) (gName 1) (tOr (tTest (tOp (rLtP K) (tVar 1) (tC (.str ("a" : Str))))) (tTest (tOp (rGtP K) (tVar 1) (tC (.str ("z" : Str)))))) (tVar 1) [1]) (tLst tNil))))
def sp_law_is_name (K : PySem.W.Frag) : Sp := spD K shortS (fun d => [d]) (fun d => .bool (nameD d))
theorem sd_law_is_name (d : D) (h : shortS d) : SD K (t_law_is_name K) (entry 2 [d]) (retD (.bool (nameD d))) := by
  cases d with
  | str x =>
    refine sd_seq (sd_if (et_or (et_not (et_B (ed_isi (T := "str") (by decide) (ed_var rfl)))) fun _ => et_or (et_test (ed_op (ed_cb (ea_cons (ed_var rfl) ea_nil) (rc_lenS (h x rfl))) ed_int rd_ltI)) fun _ => et_test (ed_op (ed_cb (ea_cons (ed_var rfl) ea_nil) (rc_lenS (h x rfl))) ed_int rd_gtI)) (fun hb => sd_ret ed_bl rfl ?_) (fun hb => sd_next ?_))
    · have e : isNm x = false := by
        simp [isTy, isTyN, tyN] at hb
        unfold isNm
        rw [Bool.and_eq_false_iff, Bool.and_eq_false_iff]
        left
        simp only [decide_eq_false_iff_not]
        omega
      show Rt.d (.bool false) = .d (.bool (isNm x))
      rw [e]
    · simp [isTy, isTyN, tyN] at hb
      have l8 : x.cps.toList.length ≤ 8 := by
        rw [← len_cps]
        omega
      have hl : x.cps.toList.length < sizeLine := Nat.lt_of_le_of_lt l8 (by decide)
      have h1 := el_lc (K := K) (te := tVar 1) (g := gName 1) (wi := iAny K (tVar 0)) (tt := tOr (tTest (tOp (rLtP K) (tVar 1) (tC (.str ("a" : Str))))) (tTest (tOp (rGtP K) (tVar 1) (tC (.str ("z" : Str)))))) (ρ := allR [.d (.str x), .un]) (vs := [1]) (xs := x.cps.toList) (enc := fun c => PyData.str ⟨#[c]⟩) offS (fun c => .str ⟨#[c]⟩) (ei_anyS (ed_var rfl)) (fun c _ => eg_name (i := 1)) (by simp) (fun c _ => et_or (et_test (ed_op (ed_var rfl) ed_str rd_ltS)) fun _ => et_test (ed_op (ed_var rfl) ed_str rd_gtS)) (fun c _ _ => ed_var rfl) hl
      have pl : ∀ ys : List Nat, PyData.plain (.list (ys.map fun c => PyData.str ⟨#[c]⟩)) = true := fun ys => by
        show PyData.plainAll _ = true
        rw [plainL_iff]
        intro d hd
        obtain ⟨i, _, rfl⟩ := List.mem_map.mp hd
        rfl
      refine sd_ret (ed_is (ed_op h1.ed (EL.ed (el_lst ea_nil (szL 0 rfl))) (rd_eqP (pl _) rfl (by simp [PyData.depth, PyData.depthAll]))) (congrArg PyData.bool ?_)) rfl rfl
      rw [eqv_nilL]
      have e : isNm x = x.cps.toList.all fun c => decide (c ∈ abc.cps.toList) := by
        unfold isNm
        have e1 : (decide (1 ≤ x.length) && decide (x.length ≤ 8)) = true := by
          simp
          omega
        rw [e1, Bool.true_and]
      show _ = isNm x
      rw [e]
      generalize x.cps.toList = ys
      induction ys with
      | nil => rfl
      | cons y ys ih =>
        rw [List.filter_cons, List.all_cons, ← ih, offS_eq]
        cases decide (y ∈ abc.cps.toList) <;> simp
  | _ =>
    exact sd_seq (sd_if (et_orT (et_notB (et_B (ed_isiB (T := "str") (b := false) (by decide) (ed_var rfl))))) (fun _ => sd_ret ed_bl rfl rfl) (fun hb => absurd hb (by decide)))
abbrev N_law_is_pair : List Str := ["_law_thing", "_law_numbers"]
abbrev t_law_is_pair (K : PySem.W.Frag) : TS := (tSeq (tIfS (tOr (tNot (tB (tCB (rIsi K) (tCons (tVar 0) (tCons (tC (.ty "tuple")) tNil))))) (tOr (tTest (tOp (rNeP K) (tCB (rLen K) (tCons (tVar 0) tNil)) (tC (.int 2)))) (tNot (tB (tCall (sp_law_is_name K) [] E0 (tCons (tOp (rIx K) (tVar 0) (tC (.int 0))) tNil)))))) (tRet (tC (.bl false))) tNext) (tRet (tAndV (tCB (rIsi K) (tCons (tOp (rIx K) (tVar 0) (tC (.int 1))) (tCons (tC (.ty "int")) tNil))) (tAndV (tNotV (tCB (rIsi K) (tCons (tOp (rIx K) (tVar 0) (tC (.int 1))) (tCons (tC (.ty "bool")) tNil)))) (tOp (rInA K) (tOp (rIx K) (tVar 0) (tC (.int 1))) (tVar 1))))))
def sp_law_is_pair (K : PySem.W.Frag) : Sp := spD K (fun a : D × Int × Int => shortP a.1) (fun a => [a.1, .list [.int a.2.1, .int a.2.2]]) (fun a => .bool (pairD a.2.1 a.2.2 a.1))
theorem sd_law_is_pair (a : D × Int × Int) (h : shortP a.1) : SD K (t_law_is_pair K) (entry 2 [a.1, .list [.int a.2.1, .int a.2.2]]) (retD (.bool (pairD a.2.1 a.2.2 a.1))) := by
  obtain ⟨d, i, j⟩ := a
  cases d with
  | tuple ds =>
    match ds, h with
    | [x, y], h =>
      refine sd_seq (sd_if (et_orF (et_notB (et_B (ed_isiB (T := "tuple") (b := true) (by decide) (ed_var rfl)))) (et_orF (et_test (ed_is (ed_op (ed_cb (ea_cons (ed_var rfl) ea_nil) rc_lenT) ed_int rd_neI) rfl)) (et_not (et_B (ed_call x (ea_cons (ed_op (ed_var rfl) ed_int (rd_ixT' rfl)) ea_nil) (h x y rfl)))))) (fun hb => sd_ret ed_bl rfl ?_) (fun hb => sd_next ?_))
      · have e : nameD x = false := by simpa using hb
        show Rt.d (.bool false) = .d (.bool (nameD x && numD i j y))
        rw [e]
        rfl
      · have e : nameD x = true := by simpa using hb
        have er : ∀ b, b = numD i j y → Rt.d (.bool b) = .d (.bool (nameD x && numD i j y)) := fun b hb => by rw [e, hb, Bool.true_and]
        cases y with
        | int k =>
          refine sd_ret (ed_andT (ed_isiB (T := "int") (by decide) (ed_op (ed_var rfl) ed_int (rd_ixT' rfl))) (ed_andT (ed_notB (ed_isi (T := "bool") (by decide) (ed_op (ed_var rfl) ed_int (rd_ixT' rfl)))) (ed_op (ed_op (ed_var rfl) ed_int (rd_ixT' rfl)) (ed_var rfl) (rd_inL rfl rfl (by simp [PyData.depth]))))) rfl (er _ ?_)
          simp [anyD, PyData.eqv, numD]
          rw [Bool.eq_iff_iff]
          simp
          omega
        | bool b => exact sd_ret (ed_andT (ed_isiB (T := "int") (by decide) (ed_op (ed_var rfl) ed_int (rd_ixT' rfl))) (ed_andF (ed_notB (ed_isi (T := "bool") (by decide) (ed_op (ed_var rfl) ed_int (rd_ixT' rfl)))))) rfl (er _ rfl)
        | _ => exact sd_ret (ed_andF (ed_isiB (T := "int") (by decide) (ed_op (ed_var rfl) ed_int (rd_ixT' rfl)))) rfl (er _ rfl)
    | [], _ => exact sd_seq (sd_if (et_orF (et_notB (et_B (ed_isiB (T := "tuple") (b := true) (by decide) (ed_var rfl)))) (et_orT (et_test (ed_is (ed_op (ed_cb (ea_cons (ed_var rfl) ea_nil) rc_lenT) ed_int rd_neI) rfl)))) (fun _ => sd_ret ed_bl rfl rfl) (fun hb => absurd hb (by decide)))
    | [x], _ => exact sd_seq (sd_if (et_orF (et_notB (et_B (ed_isiB (T := "tuple") (b := true) (by decide) (ed_var rfl)))) (et_orT (et_test (ed_is (ed_op (ed_cb (ea_cons (ed_var rfl) ea_nil) rc_lenT) ed_int rd_neI) rfl)))) (fun _ => sd_ret ed_bl rfl rfl) (fun hb => absurd hb (by decide)))
    | x :: y :: z :: r, _ =>
      refine sd_seq (sd_if (et_orF (et_notB (et_B (ed_isiB (T := "tuple") (b := true) (by decide) (ed_var rfl)))) (et_orT (et_test (ed_is (ed_op (ed_cb (ea_cons (ed_var rfl) ea_nil) rc_lenT) ed_int rd_neI) ?_)))) (fun _ => sd_ret ed_bl rfl rfl) (fun hb => absurd hb (by decide)))
      rw [show (((x :: y :: z :: r).length : Int) == 2) = false by simp; omega]
      rfl
  | _ => exact sd_seq (sd_if (et_orT (et_notB (et_B (ed_isiB (T := "tuple") (b := false) (by decide) (ed_var rfl))))) (fun _ => sd_ret ed_bl rfl rfl) (fun hb => absurd hb (by decide)))
abbrev N_law_told : List Str := ["_law_thing", "_law_found", "_law_one"]
abbrev t_law_told (K : PySem.W.Frag) : TS := (tSeq (tAsg (tLst (tCons (tCall (sp_is_name K) [] E0 (tCons (tVar 0) tNil)) (tCons (tCall (sp_is_piece K) [] E0 (tCons (tVar 0) tNil)) (tCons (tCall (sp_is_end K) [] E0 (tCons (tVar 0) tNil)) tNil)))) (gName 1)) (tSeq (tIfS (tTest (tOp (rNeP K) (tLc (iAny K (tVar 1)) (gName 2) (tNot (tB (tCB (rIsi K) (tCons (tVar 2) (tCons (tC (.ty "bool")) tNil))))) (tVar 2) [2]) (tLst tNil))) (tRet (tC (.bl false))) tNext) (tRet (tOp (rEqP K) (tVar 1) (tLst (tCons (tCall (sp_law_is_name K) [] E0 (tCons (tVar 0) tNil)) (tCons (tCall (sp_law_is_pair K) [] E0 (tCons (tVar 0) (tCons (tLst (tCons (tC (.int 1)) (tCons (tUn (rU fun i => .int (-i)) (tC (.int 1))) tNil))) tNil))) (tCons (tCall (sp_law_is_pair K) [] E0 (tCons (tVar 0) (tCons (tLst (tCons (tC (.int 0)) (tCons (tC (.int 1)) tNil))) tNil))) tNil))))))))
def sp_law_told (K : PySem.W.Frag) : Sp := spD K short (fun d => [d]) (fun _ => .bool true)
theorem sd_law_told (d : D) (h : short d) : SD K (t_law_told K) (entry 3 [d]) (retD (.bool true)) := by
  have hs := short_S h
  have hp := short_P h
  refine sd_seq (sd_setL (el_lst (ea_cons (ed_call d (ea_cons (ed_var rfl) ea_nil) hs) (ea_cons (ed_call d (ea_cons (ed_var rfl) ea_nil) hp) (ea_cons (ed_call d (ea_cons (ed_var rfl) ea_nil) hp) ea_nil))) (szL 3 rfl)) ?_)
  refine sd_still (i := 1) rfl ?_
  have h1 := el_lc (K := K) (te := tVar 2) (g := gName 2) (tt := tNot (tB (tCB (rIsi K) (tCons (tVar 2) (tCons (tC (.ty "bool")) tNil))))) (wi := iAny K (tVar 1)) (ρ := allR [.d d, .d (.list ([nameD d, pairD 1 (-1) d, pairD 0 1 d].map .bool)), .un]) (vs := [2]) (xs := [nameD d, pairD 1 (-1) d, pairD 0 1 d]) (enc := PyData.bool) (fun _ => false) (fun _ => .none) (ei_anyL (ed_var rfl)) (fun c _ => eg_name (i := 2)) (by simp) (fun c _ => et_notB (et_B (ed_isiB (T := "bool") (b := true) (by decide) (ed_var rfl)))) (fun c _ hc => absurd hc (by decide)) (show 3 < sizeLine by decide)
  refine sd_seq (sd_if (b := false) (et_test (ed_is (ed_op (EL.ed (el_is h1 (es := []) (by simp))) (EL.ed (el_lst ea_nil (szL 0 rfl))) (rd_neP rfl rfl (by simp [PyData.depth, PyData.depthAll]))) (by simp [PyData.eqv, PyData.eqvAll]))) (fun hb => absurd hb (by decide)) (fun hb => sd_next ?_))
  refine sd_ret (ed_is (ed_op (ed_var rfl) (EL.ed (el_lst (ea_cons (ed_call d (ea_cons (ed_var rfl) ea_nil) hs) (ea_cons (ed_call (d, 1, -1) (ea_cons (ed_var rfl) (ea_cons (EL.ed (el_lst (ea_cons ed_int (ea_cons (rd_neg ed_int) ea_nil)) (szL 2 rfl))) ea_nil)) hp) (ea_cons (ed_call (d, 0, 1) (ea_cons (ed_var rfl) (ea_cons (EL.ed (el_lst (ea_cons ed_int (ea_cons ed_int ea_nil)) (szL 2 rfl))) ea_nil)) hp) ea_nil))) (szL 3 rfl))) (rd_eqP rfl rfl (by simp [PyData.depth, PyData.depthAll]))) (congrArg PyData.bool ?_)) rfl rfl
  simp [PyData.eqv, PyData.eqvAll]
end
end CJ

set_option Elab.async false
set_option linter.all false
set_option maxRecDepth 100000
set_option maxHeartbeats 4000000
/-! k01: the law itself. -/
namespace CJ
open PySem L2
open PySem.W (dataLt)
theorem beq_cps (x y : Str) : (x == y) = decide (x.cps.toList = y.cps.toList) := by
  rw [Bool.eq_iff_iff, decide_eq_true_eq, beq_iff_eq]
  exact ⟨fun h => by rw [h], fun h => PySem.W.str_of_cps h⟩
theorem ltE (e f : En) : dataLt (enE e) (enE f) = if e.1 == f.1 then (!e.2 && f.2) else decide (e.1.cps.toList < f.1.cps.toList) := by
  obtain ⟨x, b⟩ := e
  obtain ⟨y, c⟩ := f
  show dataLt (.tuple [.str x, .int _]) (.tuple [.str y, .int _]) = _
  rw [PySem.W.dataLt_pair (by simp [PySem.W.alike]) (by simp [PySem.W.alike]), PySem.W.dataLt_str, PySem.W.dataLt_int]
  have e1 : PyData.eqv (.str x) (.str y) = (x == y) := by simp only [PyData.eqv]
  have e2 : PyData.eqv (.int (if b = true then 1 else 0)) (.int (if c = true then 1 else 0)) = (b == c) := by
    simp only [PyData.eqv]
    cases b <;> cases c <;> rfl
  rw [e1, e2]
  show _ = if (x == y) = true then (!b && c) else decide (x.cps.toList < y.cps.toList)
  cases (x == y) with
  | true => cases b <;> cases c <;> rfl
  | false => rfl
theorem lt_asym (e f : En) (h : dataLt (enE e) (enE f) = true) : dataLt (enE f) (enE e) = false := by
  rw [ltE] at h ⊢
  rw [beq_cps] at h ⊢
  by_cases q : e.1.cps.toList = f.1.cps.toList
  · rw [if_pos (decide_eq_true q)] at h
    rw [if_pos (decide_eq_true q.symm)]
    revert h
    cases e.2 <;> cases f.2 <;> decide
  · have q2 : ¬ f.1.cps.toList = e.1.cps.toList := fun z => q z.symm
    rw [if_neg (by simpa using q)] at h
    rw [if_neg (by simpa using q2)]
    have h := of_decide_eq_true h
    exact decide_eq_false fun z => List.lt_irrefl _ (List.lt_trans h z)
theorem lt_total (e f : En) (h1 : dataLt (enE e) (enE f) = false) (h2 : dataLt (enE f) (enE e) = false) : e = f := by
  rw [ltE, beq_cps] at h1 h2
  by_cases q : e.1.cps.toList = f.1.cps.toList
  · rw [if_pos (decide_eq_true q)] at h1
    rw [if_pos (decide_eq_true q.symm)] at h2
    have e1 := PySem.W.str_of_cps q
    obtain ⟨x, b⟩ := e
    obtain ⟨y, c⟩ := f
    have e1 : x = y := e1
    subst e1
    revert h1 h2
    cases b <;> cases c <;> simp
  · have q2 : ¬ f.1.cps.toList = e.1.cps.toList := fun z => q z.symm
    rw [if_neg (by simpa using q)] at h1
    rw [if_neg (by simpa using q2)] at h2
    exact (q (List.le_antisymm (List.not_lt.mp (of_decide_eq_false h2)) (List.not_lt.mp (of_decide_eq_false h1)))).elim
def dueE (e f : En) : D := if dataLt (enE e) (enE f) = true then .tuple [enE e, enE f] else .tuple [enE f, enE e]
theorem due_1 (e f : En) : enPl (plOf (some e) (some f)) = dueE e f := by
  unfold dueE enPl plOf ltO
  show PyData.tuple [enO (if dataLt (enE f) (enE e) = true then some f else some e), enO (if dataLt (enE e) (enE f) = true then some f else some e)] = _
  cases h1 : dataLt (enE e) (enE f) with
  | true => simp [lt_asym e f h1, enO]
  | false =>
    cases h2 : dataLt (enE f) (enE e) with
    | true => simp [enO]
    | false => simp [enO, lt_total e f h1 h2]
theorem due_2 (e f : En) : enPl (plOf (some f) (some e)) = dueE e f := by
  rw [due_1]
  unfold dueE
  cases h1 : dataLt (enE e) (enE f) with
  | true => simp [lt_asym e f h1]
  | false =>
    cases h2 : dataLt (enE f) (enE e) with
    | true => simp
    | false => simp [lt_total e f h1 h2]
theorem none_lt (e : En) : dataLt (.tuple []) (enE e) = true := by
  show dataLt (.tuple []) (.tuple [_, _]) = true
  rw [PySem.W.dataLt_tuple, PySem.W.toks_all_cons]
  simp only [PySem.W.keyToksAll]
  rw [PyProof.Rows.lex_diff (O := PyProof.Rows.itemOrd) (by simp)]
  rfl
theorem not_lt_none (e : En) : dataLt (enE e) (.tuple []) = false := by
  show dataLt (.tuple [_, _]) (.tuple []) = false
  rw [PySem.W.dataLt_tuple, PySem.W.toks_all_cons]
  simp only [PySem.W.keyToksAll]
  rw [PyProof.Rows.lex_diff (O := PyProof.Rows.itemOrd) (by simp)]
  rfl
theorem none_1 (e : En) : enPl (plOf none (some e)) = .tuple [.tuple [], enE e] := by
  unfold enPl plOf ltO
  show PyData.tuple [enO (if dataLt (enE e) (.tuple []) = true then some e else none), enO (if dataLt (.tuple []) (enE e) = true then some e else none)] = _
  rw [none_lt, not_lt_none]
  rfl
theorem none_2 (e : En) : enPl (plOf (some e) none) = .tuple [.tuple [], enE e] := by
  unfold enPl plOf ltO
  show PyData.tuple [enO (if dataLt (.tuple []) (enE e) = true then none else some e), enO (if dataLt (enE e) (.tuple []) = true then none else some e)] = _
  rw [none_lt, not_lt_none]
  rfl
theorem enE_plain (e : En) : (enE e).plain = true := rfl
theorem enE_depth (e : En) : (enE e).depth = 1 := by simp [enE, PyData.depth, PyData.depthAll]
theorem enE_self (e : En) : PyData.eqv (enE e) (enE e) = true := by simp [enE, PyData.eqv, PyData.eqvAll]
theorem due_plain (e f : En) : (dueE e f).plain = true := by unfold dueE; split <;> rfl
theorem due_depth (e f : En) : (dueE e f).depth ≤ 60 := by
  unfold dueE
  split <;> simp [PyData.depth, PyData.depthAll, enE_depth]
theorem due_pure (e f : En) : pureD (dueE e f) = true := by
  unfold dueE
  split <;> simp [enE, pureD, pureL]
theorem due_self (e f : En) : PyData.eqv (dueE e f) (dueE e f) = true := by
  unfold dueE
  split <;> simp [PyData.eqv, PyData.eqvAll, enE_self]
theorem nm_short {x : Str} (h : isNm x = true) : x.length ≤ 8 := by
  unfold isNm at h
  rw [Bool.and_eq_true, Bool.and_eq_true, decide_eq_true_eq, decide_eq_true_eq] at h
  exact h.1.2
section
variable {K : PySem.W.Frag} {ρ : Sls} {E : DE} {n : Nat}
theorem lx_name {cs : List Int} {C : D → Nat → Prop} (hs : (froz ρ)[0]? = some (some (.list (cs.map .int)))) (hc : cs.length ≤ 63) (hn : 9 ≤ n) (hC : ∀ x : Str, isNm x = true → C (.str x) (n - 9)) :
    LX K (tCall (sp_law_name K) [] E0 (tCons (tVar 0) (tCons (tVar 1) tNil))) 1 ρ n C :=
  lx_call cs hs hc (la_nil ⟨(), trivial, rfl, hn, fun d ⟨x, e, h⟩ => e ▸ hC x h⟩)
theorem lx_odd {cs : List Int} {C : D → Nat → Prop} {te : TE} {x : Str} (hs : (froz ρ)[0]? = some (some (.list (cs.map .int)))) (hc : cs.length ≤ 63) (hn : 1 ≤ n) (hx : x.length ≤ 8) (h : ED K te (froz ρ) (.str x)) (hC : ∀ d, short d → C d (n - 1)) :
    LX K (tCall (sp_law_odd K) [] E0 (tCons (tVar 0) (tCons (tVar 1) (tCons te tNil)))) 1 ρ n C :=
  lx_call cs hs hc (la_ea (ea_cons h ea_nil) ⟨x, hx, rfl, hn, fun d h => hC d h⟩)
theorem way_of {r : Int} (h0 : 0 ≤ r) (h1 : r < 2) : ∃ b, 1 - 2 * r = wayI b := by
  rcases (by omega : r = 0 ∨ r = 1) with rfl | rfl
  · exact ⟨true, rfl⟩
  · exact ⟨false, rfl⟩
theorem side_of {r : Int} (h0 : 0 ≤ r) (h1 : r < 2) : ∃ b : Bool, r = if b then 1 else 0 := by
  rcases (by omega : r = 0 ∨ r = 1) with rfl | rfl
  · exact ⟨false, rfl⟩
  · exact ⟨true, rfl⟩
abbrev N_law : List Str := ["_law_script", "_law_at", "_law_k", "_law_name_here", "_law_other", "_law_way", "_law_tail", "_law_head", "_law_thing", "_law_both", "_law_far", "_law_due"]
abbrev t_law_r (K : PySem.W.Frag) : TS := (tSeq (tFor (iRng1 (tCons (tCB (rMax2 K) (tCons (tC (.int 2)) (tCons (tCB (rLen K) (tCons (tVar 0) tNil)) tNil))) tNil)) (gName 2) (tSeq (tPar 3 4 (tCons (tCall (sp_law_name K) [] E0 (tCons (tVar 0) (tCons (tVar 1) tNil))) (tCons (tCall (sp_law_name K) [] E0 (tCons (tVar 0) (tCons (tVar 1) tNil))) tNil))) (tSeq (tAsg (tOp (rI0 fun i j => .int (i - j)) (tC (.int 1)) (tOp (rMulA) (tC (.int 2)) (tCall (sp_law_draw K) [] E0 (tCons (tVar 0) (tCons (tVar 1) (tCons (tC (.int 2)) tNil)))))) (gName 5)) (tSeq (tPar 6 7 (tCons (tTup (tCons (tVar 3) (tCons (tC (.int 0)) tNil))) (tCons (tTup (tCons (tVar 3) (tCons (tC (.int 1)) tNil))) tNil))) (tSeq (tFor (iAny K (tTup (tCons (tVar 3) (tCons (tTup (tCons (tVar 3) (tCons (tVar 5) tNil))) (tCons (tVar 6) (tCons (tVar 7) (tCons (tCall (sp_law_odd K) [] E0 (tCons (tVar 0) (tCons (tVar 1) (tCons (tVar 3) tNil)))) (tCons (tCall (sp_law_odd K) [] E0 (tCons (tVar 0) (tCons (tVar 1) (tCons (tVar 4) tNil)))) tNil)))))))) (gName 8) (tIfS (tNot (tB (tCall (sp_law_told K) [] E0 (tCons (tVar 8) tNil)))) (tRet (tC (.bl false))) tNext)) (tSeq (tAsg (tLst (tCons (tCall (sp_begins K) [] E0 (tCons (tTup (tCons (tVar 3) (tCons (tVar 5) tNil))) tNil)) (tCons (tCall (sp_ends K) [] E0 (tCons (tTup (tCons (tVar 3) (tCons (tVar 5) tNil))) tNil)) tNil))) (gName 9)) (tSeq (tIfS (tOr (tTest (tOp (rNeP K) (tVar 9) (tStep K (tLst (tCons (tVar 6) (tCons (tVar 7) tNil))) (tVar 5)))) (tOr (tTest (tOp (rNeP K) (tCall (sp_other_end K) [] E0 (tCons (tVar 6) tNil)) (tVar 7))) (tTest (tOp (rNeP K) (tCall (sp_other_end K) [] E0 (tCons (tVar 7) tNil)) (tVar 6))))) (tRet (tC (.bl false))) tNext) (tSeq (tAsg (tTup (tCons (tVar 4) (tCons (tCall (sp_law_draw K) [] E0 (tCons (tVar 0) (tCons (tVar 1) (tCons (tC (.int 2)) tNil)))) tNil))) (gName 10)) (tSeq (tAsg (tIf (tTest (tOp (rLtP K) (tVar 6) (tVar 10))) (tTup (tCons (tVar 6) (tCons (tVar 10) tNil))) (tTup (tCons (tVar 10) (tCons (tVar 6) tNil)))) (gName 11)) (tSeq (tIfS (tOr (tTest (tOp (rNeP K) (tCall (sp_place_of K) [] E0 (tCons (tVar 6) (tCons (tVar 10) tNil))) (tVar 11))) (tTest (tOp (rNeP K) (tCall (sp_place_of K) [] E0 (tCons (tVar 10) (tCons (tVar 6) tNil))) (tVar 11)))) (tRet (tC (.bl false))) tNext) (tSeq (tIfS (tOr (tTest (tOp (rNeP K) (tCall (sp_place_of K) [] E0 (tCons (tTup tNil) (tCons (tVar 7) tNil))) (tTup (tCons (tTup tNil) (tCons (tVar 7) tNil))))) (tTest (tOp (rNeP K) (tCall (sp_place_of K) [] E0 (tCons (tVar 7) (tCons (tTup tNil) tNil))) (tTup (tCons (tTup tNil) (tCons (tVar 7) tNil)))))) (tRet (tC (.bl false))) tNext) (tIfS (tOr (tNot (tB (tCall (sp_law_told K) [] E0 (tCons (tOp (rIx K) (tVar 9) (tC (.int 0))) tNil)))) (tNot (tB (tCall (sp_law_is_pair K) [] E0 (tCons (tOp (rIx K) (tVar 9) (tC (.int 0))) (tCons (tLst (tCons (tC (.int 0)) (tCons (tC (.int 1)) tNil))) tNil)))))) (tRet (tC (.bl false))) tNext)))))))))))) (tRet (tC (.bl true))))
theorem sd_law (cs : List Int) (hc : cs.length ≤ 63) : SD K (t_law_r K) (entryN 10 cs (2 ^ 60) []) lawE := by
  have hM : ∃ M : Int, 0 ≤ M ∧ M ≤ 63 ∧ (if PySem.W.dataLt (PyData.int 2) (PyData.int (cs.length : Int)) = true then PyData.int (cs.length : Int) else PyData.int 2) = PyData.int M := by
    rw [PySem.W.dataLt_int]
    by_cases h : (2 : Int) < (cs.length : Int)
    · exact ⟨cs.length, by omega, by omega, by rw [if_pos (decide_eq_true h)]⟩
    · exact ⟨2, by omega, by omega, by rw [if_neg (by simpa using h)]⟩
  obtain ⟨M, hM0, hM1, hM⟩ := hM
  refine sd_seq (sd_for (fun i ρ' => ∃ (n : Nat) (r : Sls), ρ' = .d (.list (cs.map .int)) :: .cell n :: r ∧ r.length = 10 ∧ 2 ^ 60 ≤ n + 22 * i ∧ i ≤ 63)
    (ei_rng1 (ea_cons (ed_is (ed_cb (ea_cons ed_int (ea_cons (ed_is (ed_cb (ea_cons (ed_var rfl) ea_nil) rc_lenL) (by rw [List.length_map])) ea_nil)) (rc_max2 rfl rfl ⟨by simp [PySem.W.alike], by simp⟩ (by simp [PyData.depth, PyData.depthAll]))) hM) ea_nil) (by omega) (by omega))
    ⟨2 ^ 60, _, rfl, rfl, Nat.le_refl _, by omega⟩ ?_ fun ρ' _ => sd_ret ed_bl rfl rfl)
  rintro i d ρ' hd ⟨n, r, rfl, hr, hn, hi⟩
  have hi2 : i < 63 := by
    have := (List.getElem?_eq_some_iff.mp hd).1
    rw [List.length_map, List.length_range] at this
    omega
  have hn2 : 22 ≤ n := by omega
  refine ⟨_, egs_name, ?_⟩
  match r, hr with
  | [a2, a3, a4, a5, a6, a7, a8, a9, a10, a11], _ =>
  refine sd_forget2 (r := [.d d, a3, a4, a5, a6, a7, a8, a9, a10, a11]) ?_
  -- two names
  refine sd_seq (ls_par (j := 1) (n := n) rfl rfl (la_cons (lx_name (cs := cs) rfl hc (by omega) fun x hx => la_cons (lx_name (cs := cs) rfl hc (by omega) fun y hy => la_nil ⟨_, _, rfl, ?_⟩))))
  have hx8 := nm_short hx
  have hy8 := nm_short hy
  have hx1 : x.length ≤ 1000 := by omega
  -- a way
  refine sd_seq (ls_set (j := 1) (n := n - 9 - 9) rfl rfl (lx_op (lx_ed ed_int (lx_op (lx_ed ed_int (lx_draw (cs := cs) rfl hc (by omega) (by decide) ed_int fun r h0 h1 => ⟨_, rd_mulI (.inl ⟨by decide, by decide⟩), ⟨_, rd_sub, ?_⟩⟩))))))
  obtain ⟨b, hb⟩ := way_of h0 h1
  rw [hb]
  -- tail and head
  refine sd_seq (ls_par (j := 1) (n := n - 9 - 9 - 1) rfl rfl (la_ea (ea_cons (ed_tup (ea_cons (ed_var rfl) (ea_cons ed_int ea_nil)) (szL 2 rfl)) (ea_cons (ed_tup (ea_cons (ed_var rfl) (ea_cons ed_int ea_nil)) (szL 2 rfl)) ea_nil)) ⟨_, _, rfl, ?_⟩))
  have eW : (if b = true then (1 : Int) else -1) = wayI b := rfl
  -- the things are told
  refine sd_seq (ls_for (j := 1) (n := n - 9 - 9 - 1) rfl rfl (li_any (lx_tup (la_cons (lx_ed (ed_var rfl) (la_cons (lx_ed (ed_tup (ea_cons (ed_var rfl) (ea_cons (ed_var rfl) ea_nil)) (szL 2 rfl)) (la_cons (lx_ed (ed_var rfl) (la_cons (lx_ed (ed_var rfl)
    (la_cons (lx_odd (cs := cs) rfl hc (by omega) hx8 (ed_var rfl) fun o1 ho1 => la_cons (lx_odd (cs := cs) rfl hc (by omega) hy8 (ed_var rfl) fun o2 ho2 => la_nil ⟨szL 6 rfl, _, .inr rfl, ?_⟩))))))))))))))
  refine ⟨fun _ ρ' => ∃ e, ρ' = [.d (.list (cs.map .int)), .cell (n - 9 - 9 - 1 - 1 - 1), .un, .d (.str x), .d (.str y), .d (.int (wayI b)), .d (enE (x, false)), .d (enE (x, true)), e, .un, .un, .un], ⟨.un, rfl⟩, ?_, ?_⟩
  · rintro k thing ρ' hk ⟨e, rfl⟩
    have all : ∀ z ∈ [PyData.str x, .tuple [.str x, .int (wayI b)], .tuple [.str x, .int 0], .tuple [.str x, .int 1], o1, o2], short z := by
      simp only [List.forall_mem_cons]
      exact ⟨hx1, hx1, hx1, hx1, ho1, ho2, fun _ h => nomatch h⟩
    have hs := all thing (List.mem_of_getElem? hk)
    exact ⟨_, egs_name, sd_if (et_notB (et_B (ed_call thing (ea_cons (ed_var rfl) ea_nil) hs))) (fun hb => absurd hb (by decide)) fun _ => sd_next ⟨_, rfl⟩⟩
  rintro ρ' ⟨e, rfl⟩
  refine sd_forget 8 ?_
  -- begins and ends
  refine sd_seq (sd_setL (el_lst (ea_cons (ed_call (x, b) (ea_cons (ed_tup (ea_cons (ed_var rfl) (ea_cons (ed_var rfl) ea_nil)) (szL 2 rfl)) ea_nil) trivial) (ea_cons (ed_call (x, b) (ea_cons (ed_tup (ea_cons (ed_var rfl) (ea_cons (ed_var rfl) ea_nil)) (szL 2 rfl)) ea_nil) trivial) ea_nil)) (szL 2 rfl)) ?_)
  refine sd_still (i := 9) rfl ?_
  have dE : ∀ e f : En, min (enE e).depth (enE f).depth ≤ 60 := fun e f => by
    rw [enE_depth, enE_depth]
    decide
  refine sd_seq (sd_if (b := false) (et_orF (et_test (ed_is (ed_op (ed_var rfl) (EL.ed (el_step (w := b) (EL.ed (el_lst (ea_cons (ed_var rfl) (ea_cons (ed_var rfl) ea_nil)) (szL 2 rfl))) (ed_var rfl))) (rd_neP rfl (by cases b <;> rfl) (Nat.le_trans (Nat.min_le_left _ _) (by simp [PyData.depth, PyData.depthAll, enE_depth])))) ?_))
    (et_orF (et_test (ed_is (ed_op (ed_call (x, false) (ea_cons (ed_var rfl) ea_nil) trivial) (ed_var rfl) (rd_neP rfl rfl (dE _ _))) ?_)) (et_test (ed_is (ed_op (ed_call (x, true) (ea_cons (ed_var rfl) ea_nil) trivial) (ed_var rfl) (rd_neP rfl rfl (dE _ _))) ?_)))) (fun hb => absurd hb (by decide)) fun _ => sd_next ?_)
  · cases b <;> simp [PyData.eqv, PyData.eqvAll, enE_self, beginsP, endsP]
  · show PyData.bool (!PyData.eqv (enE (x, true)) (enE (x, true))) = _
    rw [enE_self]
    rfl
  · show PyData.bool (!PyData.eqv (enE (x, false)) (enE (x, false))) = _
    rw [enE_self]
    rfl
  -- a far end
  refine sd_seq (ls_set (j := 1) (n := n - 9 - 9 - 1 - 1 - 1) rfl rfl (lx_tup (la_cons (lx_ed (ed_var rfl) (la_cons (lx_draw (cs := cs) rfl hc (by omega) (by decide) ed_int fun q q0 q1 => la_nil ⟨szL 2 rfl, ?_⟩))))))
  obtain ⟨c, rfl⟩ := side_of q0 q1
  have al : PySem.W.alike (enE (x, false)) (enE (y, c)) = true := enO_alike (some (x, false)) (some (y, c))
  refine sd_seq (sd_set (d := dueE (x, false) (y, c)) (ed_if (b := dataLt (enE (x, false)) (enE (y, c))) (et_test (ed_op (ed_var rfl) (ed_var rfl) (rd_ltP rfl rfl al (by intro h; cases h) (dE (x, false) (y, c))))) (fun hb => ed_is (ed_tup (ea_cons (ed_var rfl) (ea_cons (ed_var rfl) ea_nil)) (szL 2 rfl)) ?_) (fun hb => ed_is (ed_tup (ea_cons (ed_var rfl) (ea_cons (ed_var rfl) ea_nil)) (szL 2 rfl)) ?_)) (due_pure _ _) ?_)
  · unfold dueE
    rw [if_pos hb]
    rfl
  · unfold dueE
    rw [hb]
    rfl
  have dD : ∀ e f : D, f.depth ≤ 60 → min e.depth f.depth ≤ 60 := fun e f h => Nat.le_trans (Nat.min_le_right _ _) h
  have dn : ∀ e : En, (PyData.tuple [.tuple [], enE e]).depth ≤ 60 := fun e => by simp [PyData.depth, PyData.depthAll, enE_depth]
  refine sd_seq (sd_if (b := false) (et_orF (et_test (ed_is (ed_op (ed_is (ed_call (some (x, false), some (y, c)) (ea_cons (ed_var rfl) (ea_cons (ed_var rfl) ea_nil)) trivial) (due_1 _ _)) (ed_var rfl) (rd_neP (due_plain _ _) (due_plain _ _) (dD _ _ (due_depth _ _)))) (by rw [due_self]; rfl)))
    (et_test (ed_is (ed_op (ed_is (ed_call (some (y, c), some (x, false)) (ea_cons (ed_var rfl) (ea_cons (ed_var rfl) ea_nil)) trivial) (due_2 _ _)) (ed_var rfl) (rd_neP (due_plain _ _) (due_plain _ _) (dD _ _ (due_depth _ _)))) (by rw [due_self]; rfl)))) (fun hb => absurd hb (by decide)) fun _ => sd_next ?_)
  refine sd_seq (sd_if (b := false) (et_orF (et_test (ed_is (ed_op (ed_is (ed_call (none, some (x, true)) (ea_cons (ed_tup ea_nil (szL 0 rfl)) (ea_cons (ed_var rfl) ea_nil)) trivial) (none_1 _)) (ed_tup (ea_cons (ed_tup ea_nil (szL 0 rfl)) (ea_cons (ed_var rfl) ea_nil)) (szL 2 rfl)) (rd_neP rfl rfl (dD _ _ (dn (x, true))))) (by simp [PyData.eqv, PyData.eqvAll, enE])))
    (et_test (ed_is (ed_op (ed_is (ed_call (some (x, true), none) (ea_cons (ed_var rfl) (ea_cons (ed_tup ea_nil (szL 0 rfl)) ea_nil)) trivial) (none_2 _)) (ed_tup (ea_cons (ed_tup ea_nil (szL 0 rfl)) (ea_cons (ed_var rfl) ea_nil)) (szL 2 rfl)) (rd_neP rfl rfl (dD _ _ (dn (x, true))))) (by simp [PyData.eqv, PyData.eqvAll, enE])))) (fun hb => absurd hb (by decide)) fun _ => sd_next ?_)
  have pr : pairD 0 1 (enE (x, !b)) = true := by
    show (isNm x && numD 0 1 _) = true
    rw [hx]
    cases b <;> rfl
  have sh : short (enE (x, !b)) := hx1
  refine sd_if (b := false) (et_orF (et_notB (et_B (ed_call (enE (x, !b)) (ea_cons (ed_op (ed_var rfl) ed_int (rd_ixL' rfl)) ea_nil) sh))) (et_notB (et_B (ed_is (ed_call (enE (x, !b), 0, 1) (ea_cons (ed_op (ed_var rfl) ed_int (rd_ixL' rfl)) (ea_cons (EL.ed (el_lst (ea_cons ed_int (ea_cons ed_int ea_nil)) (szL 2 rfl))) ea_nil)) (short_P sh)) (congrArg PyData.bool pr))))) (fun hb => absurd hb (by decide)) fun _ => sd_next ?_
  exact ⟨_, _, rfl, rfl, by omega, by omega⟩
end
end CJ

set_option Elab.async false
set_option linter.all false
set_option maxRecDepth 100000
set_option maxHeartbeats 4000000
namespace CJ
open PySem L2 PySem.Spec PyProof.Rows
def top (i : Nat) : Stmt := PySem.Challenge.pw_cutjoin_k01_pieces_and_ends.main.body.getD i (.Pass ⟨0, 0, 0, 0⟩)
abbrev s_law_draw : Stmt := top 12
abbrev s_law_is_name : Stmt := top 15
abbrev s_law_is_pair : Stmt := top 16
abbrev s_law_name : Stmt := top 13
abbrev s_law_odd : Stmt := top 14
abbrev s_is_name : Stmt := top 3
abbrev s_is_number : Stmt := top 4
abbrev s_is_end : Stmt := top 6
abbrev s_is_piece : Stmt := top 5
abbrev s_law_told : Stmt := top 17
abbrev s_begins : Stmt := top 7
abbrev s_ends : Stmt := top 8
abbrev s_other_end : Stmt := top 9
abbrev s_place_of : Stmt := top 10
abbrev s_law : Stmt := top 18
theorem sc_law_draw : FnScope N_law_draw ["_law_script", "_law_at", "_law_many"] (defScope s_law_draw) := ⟨rfl, rfl, rfl, by decide +kernel, rfl, by decide +kernel, by decide +kernel⟩
theorem sc_law_is_name : FnScope N_law_is_name ["_law_thing"] (defScope s_law_is_name) := ⟨rfl, rfl, rfl, by decide +kernel, rfl, by decide +kernel, by decide +kernel⟩
theorem sc_law_is_pair : FnScope N_law_is_pair ["_law_thing", "_law_numbers"] (defScope s_law_is_pair) := ⟨rfl, rfl, rfl, by decide +kernel, rfl, by decide +kernel, by decide +kernel⟩
theorem sc_law_name : FnScope N_law_name ["_law_script", "_law_at"] (defScope s_law_name) := ⟨rfl, rfl, rfl, by decide +kernel, rfl, by decide +kernel, by decide +kernel⟩
theorem sc_law_odd : FnScope N_law_odd ["_law_script", "_law_at", "_law_name_here"] (defScope s_law_odd) := ⟨rfl, rfl, rfl, by decide +kernel, rfl, by decide +kernel, by decide +kernel⟩
theorem sc_is_name : FnScope N_is_name ["thing"] (defScope s_is_name) := ⟨rfl, rfl, rfl, by decide +kernel, rfl, by decide +kernel, by decide +kernel⟩
theorem sc_is_number : FnScope N_is_number ["thing", "one", "other"] (defScope s_is_number) := ⟨rfl, rfl, rfl, by decide +kernel, rfl, by decide +kernel, by decide +kernel⟩
theorem sc_is_end : FnScope N_is_end ["thing"] (defScope s_is_end) := ⟨rfl, rfl, rfl, by decide +kernel, rfl, by decide +kernel, by decide +kernel⟩
theorem sc_is_piece : FnScope N_is_piece ["thing"] (defScope s_is_piece) := ⟨rfl, rfl, rfl, by decide +kernel, rfl, by decide +kernel, by decide +kernel⟩
theorem sc_law_told : FnScope N_law_told ["_law_thing"] (defScope s_law_told) := ⟨rfl, rfl, rfl, by decide +kernel, rfl, by decide +kernel, by decide +kernel⟩
theorem sc_begins : FnScope N_begins ["piece"] (defScope s_begins) := ⟨rfl, rfl, rfl, by decide +kernel, rfl, by decide +kernel, by decide +kernel⟩
theorem sc_ends : FnScope N_ends ["piece"] (defScope s_ends) := ⟨rfl, rfl, rfl, by decide +kernel, rfl, by decide +kernel, by decide +kernel⟩
theorem sc_other_end : FnScope N_other_end ["end"] (defScope s_other_end) := ⟨rfl, rfl, rfl, by decide +kernel, rfl, by decide +kernel, by decide +kernel⟩
theorem sc_place_of : FnScope N_place_of ["one", "other"] (defScope s_place_of) := ⟨rfl, rfl, rfl, by decide +kernel, rfl, by decide +kernel, by decide +kernel⟩
theorem sc_law : FnScope N_law ["_law_script"] (defScope s_law) := ⟨rfl, rfl, rfl, by decide +kernel, rfl, by decide +kernel, by decide +kernel⟩
structure Txt (K : PySem.W.Frag) (mg : Str → Option Value) : Prop where
  n_int : mg "int" = none
  n_len : mg "len" = none
  n_isinstance : mg "isinstance" = none
  n_str : mg "str" = none
  n_bool : mg "bool" = none
  n_tuple : mg "tuple" = none
  n_range : mg "range" = none
  n_all : mg "all" = none
  g_LETTERS : ∃ t, mg "LETTERS" = some (.str ("abcdefghijklmnopqrstuvwxyz" : Str) t)
  g_MOST_LETTERS : ∃ t, mg "MOST_LETTERS" = some (.int 8 t)
  n_max : mg "max" = none
  n_min : mg "min" = none
section
variable {P : Program} {w : World} {K : PySem.W.Frag} {mg : Str → Option Value} {base : Heap}
theorem ok_law_draw {f : Addr} {fd : FuncData} (F : Fun K "_law_draw" "_law_draw" s_law_draw f fd) (T : Txt K mg) : FnOk P w K mg base CX0 1 f fd ["_law_script", "_law_at", "_law_many"] (sp_law_draw K) :=
  okN 3 F sc_law_draw (fun _ => rfl) rfl fun cdv A outer s H E hr => ⟨t_law_draw K, by
    have nd := sc_law_draw.nd
    exact (pss_cons (ps_set (i := 3) nd rfl (by first | exact Or.inl rfl | exact Or.inr rfl) (pe_ix ix_seq (pv 1) pe_int (fun _ _ => rfl))) (pss_cons (ps_asg (pe_op op_addA (pv 3) pe_int) (pg_sub (pv 1) pe_int set_list)) (pss_cons (ps_set (i := 4) nd rfl (by first | exact Or.inl rfl | exact Or.inr rfl) (pe_op op_addA (pv 0) (pe_op op_mulA (pe_lst (pa_cons pe_int pa_nil)) (pe_callTy call_int1 (by rfl) T.n_int (by decide +kernel) (pa_cons (pe_cmpR (op_eqP hr.units) (pv 0) (pe_lst pa_nil) (nomark _)) pa_nil))))) (pss_cons (ps_set (i := 5) nd rfl (by first | exact Or.inl rfl | exact Or.inr rfl) (pe_op op_mod (pe_op op_mulA (pe_op op_addA (pe_op op_addA (pe_op op_mod (pe_ix ix_seq (pv 4) (pe_op op_mod (pv 3) (pe_callB call_len (by rfl) T.n_len (by decide +kernel) (pa_cons (pv 4) pa_nil))) (fun _ _ => rfl)) pe_int) (pe_op op_mulA pe_int (pv 3))) pe_int) pe_int) pe_int)) (pss_one (ps_ret (pe_op op_mod (pe_op op_fdiv (pe_op op_mod (pe_op op_mulA (pv 5) (pe_op op_addA (pe_op op_mulA (pv 3) (pv 3)) pe_int)) pe_int) pe_int) (pv 2)))))))), fun m cs n hm hc hn => sd_law_draw m cs n hm hc hn⟩
theorem ok_law_is_name {f : Addr} {fd : FuncData} (F : Fun K "_law_is_name" "_law_is_name" s_law_is_name f fd) (T : Txt K mg) : FnOk P w K mg base CX0 1 f fd ["_law_thing"] (sp_law_is_name K) :=
  okD F sc_law_is_name (fun _ => rfl) fun cdv A outer s H E hr => ⟨t_law_is_name K, by
    have nd := sc_law_is_name.nd
    exact (pss_cons (ps_if (PW.pt (pw_or (pt_not (pt_val (pe_callB call_isi (by rfl) T.n_isinstance (by decide +kernel) (pa_cons (pv 0) (pa_cons (pe_bltn (v := .ty "str") (by rfl) T.n_str (by decide +kernel) rfl) pa_nil))))) (pw_or (pt_cmpR (op_ltP hr.units) (pe_callB call_len (by rfl) T.n_len (by decide +kernel) (pa_cons (pv 0) pa_nil)) pe_int (nomark _)) (pw_or1 (pt_cmpR (op_gtP hr.units) (pe_callB call_len (by rfl) T.n_len (by decide +kernel) (pa_cons (pv 0) pa_nil)) pe_int (nomark _)))))) (pss_one (ps_ret pe_bl)) pss_nil) (pss_one (ps_ret (pe_cmpR (op_eqP hr.units) (pe_lc (own := [("_law_sign", 1)]) rfl nd (pi_any (pv 0)) (blkOk_by (N := N_law_is_name) (sc := defScope s_law_is_name) (by decide +kernel)) (fun _ _ _ _ _ => (pg_name (i := 1) nd rfl (by first | exact Or.inl rfl | exact Or.inr rfl))) (fun _ _ _ _ _ => pts_one (PW.pt (pw_or (pt_cmpR (op_ltP hr.units) (pv 1) pe_str (nomark _)) (pw_or1 (pt_cmpR (op_gtP hr.units) (pv 1) pe_str (nomark _)))))) (fun _ _ _ _ _ => (pv 1))) (pe_lst pa_nil) (nomark _))))), sd_law_is_name⟩
theorem ok_law_is_pair {f : Addr} {fd : FuncData} (F : Fun K "_law_is_pair" "_law_is_pair" s_law_is_pair f fd) (T : Txt K mg) (C_law_is_name : Cal P w K mg base CX0 1 "_law_is_name" ["_law_thing"] (sp_law_is_name K)) : FnOk P w K mg base CX0 2 f fd ["_law_thing", "_law_numbers"] (sp_law_is_pair K) :=
  okD F sc_law_is_pair (fun _ => rfl) fun cdv A outer s H E hr => ⟨t_law_is_pair K, by
    have nd := sc_law_is_pair.nd
    exact (pss_cons (ps_if (PW.pt (pw_or (pt_not (pt_val (pe_callB call_isi (by rfl) T.n_isinstance (by decide +kernel) (pa_cons (pv 0) (pa_cons (pe_bltn (v := .ty "tuple") (by rfl) T.n_tuple (by decide +kernel) rfl) pa_nil))))) (pw_or (pt_cmpR (op_neP hr.units) (pe_callB call_len (by rfl) T.n_len (by decide +kernel) (pa_cons (pv 0) pa_nil)) pe_int (nomark _)) (pw_or1 (pt_not (pt_val (pe_cal C_law_is_name (hr.mono (by decide)) rfl pass0 (pa_cons (pe_ix ix_seq (pv 0) pe_int (fun _ _ => rfl)) pa_nil)))))))) (pss_one (ps_ret pe_bl)) pss_nil) (pss_one (ps_ret (pe_and (pe_callB call_isi (by rfl) T.n_isinstance (by decide +kernel) (pa_cons (pe_ix ix_seq (pv 0) pe_int (fun _ _ => rfl)) (pa_cons (pe_bltn (v := .ty "int") (by rfl) T.n_int (by decide +kernel) rfl) pa_nil))) (pe_and (pe_not (pe_callB call_isi (by rfl) T.n_isinstance (by decide +kernel) (pa_cons (pe_ix ix_seq (pv 0) pe_int (fun _ _ => rfl)) (pa_cons (pe_bltn (v := .ty "bool") (by rfl) T.n_bool (by decide +kernel) rfl) pa_nil)))) (pe_one (pe_cmpR (op_inA hr.units) (pe_ix ix_seq (pv 0) pe_int (fun _ _ => rfl)) (pv 1) rfl))))))), sd_law_is_pair⟩
theorem ok_law_name {f : Addr} {fd : FuncData} (F : Fun K "_law_name" "_law_name" s_law_name f fd) (T : Txt K mg) (C_law_draw : Cal P w K mg base CX0 1 "_law_draw" ["_law_script", "_law_at", "_law_many"] (sp_law_draw K)) : FnOk P w K mg base CX0 2 f fd ["_law_script", "_law_at"] (sp_law_name K) :=
  okN 2 F sc_law_name (fun _ => rfl) rfl fun cdv A outer s H E hr => ⟨t_law_name K, by
    have nd := sc_law_name.nd
    exact (pss_cons (ps_set (i := 2) nd rfl (by first | exact Or.inl rfl | exact Or.inr rfl) pe_str) (pss_one (ps_ret (pe_join pe_str (pe_lc (own := [("_law_k", 3)]) rfl nd (pi_range1 rfl T.n_range (pa_cons (pe_op op_addA pe_int (pe_cal C_law_draw (hr.mono (by decide)) rfl pass0 (pa_cons (pv 0) (pa_cons (pv 1) (pa_cons pe_int pa_nil))))) pa_nil)) (blkOk_by (N := N_law_name) (sc := defScope s_law_name) (by decide +kernel)) (fun _ _ _ _ _ => (pg_name (i := 3) nd rfl (by first | exact Or.inl rfl | exact Or.inr rfl))) (fun _ _ _ _ _ => pts_nil) (fun _ _ _ _ _ => (pe_ix ix_seq (pv 2) (pe_cal C_law_draw (hr.mono (by decide)) rfl pass0 (pa_cons (pv 0) (pa_cons (pv 1) (pa_cons pe_int pa_nil)))) (fun _ _ => rfl)))))))), fun _ cs n _ hc hn => sd_law_name cs n hc hn⟩
theorem ok_law_odd {f : Addr} {fd : FuncData} (F : Fun K "_law_odd" "_law_odd" s_law_odd f fd) (T : Txt K mg) (C_law_draw : Cal P w K mg base CX0 1 "_law_draw" ["_law_script", "_law_at", "_law_many"] (sp_law_draw K)) : FnOk P w K mg base CX0 2 f fd ["_law_script", "_law_at", "_law_name_here"] (sp_law_odd K) :=
  okN 1 F sc_law_odd (fun _ => rfl) rfl fun cdv A outer s H E hr => ⟨t_law_odd K, by
    have nd := sc_law_odd.nd
    exact (pss_cons (ps_set (i := 3) nd rfl (by first | exact Or.inl rfl | exact Or.inr rfl) (pe_lst (pa_cons (pe_op op_addA (pv 2) pe_str) (pa_cons pe_str (pa_cons (pe_op op_addA (pe_slice sl_any (pv 2) po_none (po_some (pe_un un_neg pe_int))) pe_str) (pa_cons (pe_op op_addA (pe_slice sl_any (pv 2) po_none (po_some (pe_un un_neg pe_int))) pe_str) (pa_cons (pe_op op_addA (pe_slice sl_any (pv 2) po_none (po_some (pe_un un_neg pe_int))) pe_str) (pa_cons pe_non (pa_cons pe_int (pa_cons (pe_lst (pa_cons (pv 2) pa_nil)) (pa_cons (pe_tup (pa_cons (pv 2) pa_nil)) (pa_cons (pe_tup pa_nil) pa_nil)))))))))))) (pss_cons (ps_set (i := 3) nd rfl (by first | exact Or.inl rfl | exact Or.inr rfl) (pe_op op_addA (pv 3) (pe_lst (pa_cons (pe_tup (pa_cons (pv 2) (pa_cons pe_int pa_nil))) (pa_cons (pe_tup (pa_cons (pv 2) (pa_cons (pe_un un_neg pe_int) pa_nil))) (pa_cons (pe_tup (pa_cons (pv 2) (pa_cons pe_int pa_nil))) (pa_cons (pe_tup (pa_cons (pv 2) (pa_cons pe_int pa_nil))) (pa_cons (pe_tup (pa_cons (pv 2) (pa_cons pe_bl pa_nil))) (pa_cons (pe_tup (pa_cons (pv 2) (pa_cons pe_bl pa_nil))) (pa_cons (pe_tup (pa_cons (pv 2) (pa_cons (pe_un un_neg pe_int) pa_nil))) (pa_cons (pe_lst (pa_cons (pv 2) (pa_cons pe_int pa_nil))) pa_nil))))))))))) (pss_cons (ps_set (i := 3) nd rfl (by first | exact Or.inl rfl | exact Or.inr rfl) (pe_op op_addA (pv 3) (pe_lst (pa_cons (pe_tup (pa_cons (pv 2) (pa_cons pe_int (pa_cons pe_int pa_nil)))) (pa_cons (pe_tup (pa_cons pe_str (pa_cons pe_int pa_nil))) (pa_cons (pe_tup (pa_cons pe_str (pa_cons pe_int pa_nil))) (pa_cons (pe_tup (pa_cons (pe_upper (pv 2)) (pa_cons pe_int pa_nil))) (pa_cons (pe_tup (pa_cons (pe_upper (pv 2)) (pa_cons pe_int pa_nil))) (pa_cons (pe_tup (pa_cons pe_int (pa_cons pe_int pa_nil))) (pa_cons (pe_tup (pa_cons (pv 2) (pa_cons pe_str pa_nil))) pa_nil)))))))))) (pss_cons (ps_expr (pe_bm PySem.F.plainAttrs_list PySem.F.slot_list_append PySem.F.type_list_append (mt_append) (pv 3) (pa_cons (pe_tup (pa_cons (pv 2) (pa_cons pe_non pa_nil))) pa_nil))) (pss_cons (ps_set (i := 3) nd rfl (by first | exact Or.inl rfl | exact Or.inr rfl) (pe_op op_addA (pv 3) (pe_lst (pa_cons (pe_tup (pa_cons pe_int (pa_cons (pv 2) pa_nil))) (pa_cons (pe_disp (pps_cons (pv 2) pe_int pps_nil) (by rfl) (by rfl) (fun z => by cases z) (by decide)) (pa_cons (pe_tup (pa_cons (pe_tup (pa_cons (pv 2) (pa_cons pe_int pa_nil))) (pa_cons pe_int pa_nil))) (pa_cons (pe_op op_addA (pv 2) pe_str) (pa_cons (pe_tup (pa_cons (pe_op op_addA (pv 2) pe_str) (pa_cons pe_int pa_nil))) (pa_cons (pe_op op_mulA (pe_slice sl_any (pv 2) po_none (po_some pe_int)) pe_int) (pa_cons (pe_op op_mulA (pe_slice sl_any (pv 2) po_none (po_some pe_int)) pe_int) pa_nil)))))))))) (pss_one (ps_ret (pe_ix ix_seq (pv 3) (pe_cal C_law_draw (hr.mono (by decide)) rfl pass0 (pa_cons (pv 0) (pa_cons (pv 1) (pa_cons (pe_callB call_len (by rfl) T.n_len (by decide +kernel) (pa_cons (pv 3) pa_nil)) pa_nil)))) (fun _ _ => rfl))))))))), fun x cs n hx hc hn => sd_law_odd x cs n hx hc hn⟩
theorem ok_is_name {f : Addr} {fd : FuncData} (F : Fun K "is_name" "is_name" s_is_name f fd) (T : Txt K mg) : FnOk P w K mg base CX0 1 f fd ["thing"] (sp_is_name K) :=
  okD F sc_is_name (fun _ => rfl) fun cdv A outer s H E hr => ⟨t_is_name K, by
    have nd := sc_is_name.nd
    exact (pss_cons (ps_if (PW.pt (pw_or (pt_not (pt_val (pe_callB call_isi (by rfl) T.n_isinstance (by decide +kernel) (pa_cons (pv 0) (pa_cons (pe_bltn (v := .ty "str") (by rfl) T.n_str (by decide +kernel) rfl) pa_nil))))) (pw_or1 (pt_not (pt_chain (op_leP hr.units) (op_leP hr.units) pe_int (pe_callB call_len (by rfl) T.n_len (by decide +kernel) (pa_cons (pv 0) pa_nil)) (pe_glob rfl T.g_MOST_LETTERS.choose_spec ⟨_, rfl⟩)))))) (pss_one (ps_ret pe_bl)) pss_nil) (pss_one (ps_ret (pe_callB (cr_all rfl) (by rfl) T.n_all (by decide +kernel) (pa_cons (pe_lc (own := [("sign", 1)]) rfl nd (pi_any (pv 0)) (blkOk_by (N := N_is_name) (sc := defScope s_is_name) (by decide +kernel)) (fun _ _ _ _ _ => (pg_name (i := 1) nd rfl (by first | exact Or.inl rfl | exact Or.inr rfl))) (fun _ _ _ _ _ => pts_nil) (fun _ _ _ _ _ => (pe_cmpR (op_inA hr.units) (pv 1) (pe_glob rfl T.g_LETTERS.choose_spec ⟨_, rfl⟩) rfl))) pa_nil))))), sd_is_name⟩
theorem ok_is_number {f : Addr} {fd : FuncData} (F : Fun K "is_number" "is_number" s_is_number f fd) (T : Txt K mg) : FnOk P w K mg base CX0 1 f fd ["thing", "one", "other"] (sp_is_number K) :=
  okD F sc_is_number (fun _ => rfl) fun cdv A outer s H E hr => ⟨t_is_number K, by
    have nd := sc_is_number.nd
    exact (pss_one (ps_ret (pe_and (pe_callB call_isi (by rfl) T.n_isinstance (by decide +kernel) (pa_cons (pv 0) (pa_cons (pe_bltn (v := .ty "int") (by rfl) T.n_int (by decide +kernel) rfl) pa_nil))) (pe_and (pe_not (pe_callB call_isi (by rfl) T.n_isinstance (by decide +kernel) (pa_cons (pv 0) (pa_cons (pe_bltn (v := .ty "bool") (by rfl) T.n_bool (by decide +kernel) rfl) pa_nil)))) (pe_one (pe_or (pe_cmpR (op_eqP hr.units) (pv 0) (pv 1) (nomark _)) (pe_one (pe_cmpR (op_eqP hr.units) (pv 0) (pv 2) (nomark _))))))))), fun a _ => sd_is_number a⟩
theorem ok_is_end {f : Addr} {fd : FuncData} (F : Fun K "is_end" "is_end" s_is_end f fd) (T : Txt K mg) (C_is_name : Cal P w K mg base CX0 1 "is_name" ["thing"] (sp_is_name K)) (C_is_number : Cal P w K mg base CX0 1 "is_number" ["thing", "one", "other"] (sp_is_number K)) : FnOk P w K mg base CX0 2 f fd ["thing"] (sp_is_end K) :=
  okD F sc_is_end (fun _ => rfl) fun cdv A outer s H E hr => ⟨t_is_end K, by
    have nd := sc_is_end.nd
    exact (pss_one (ps_ret (pe_and (pe_callB call_isi (by rfl) T.n_isinstance (by decide +kernel) (pa_cons (pv 0) (pa_cons (pe_bltn (v := .ty "tuple") (by rfl) T.n_tuple (by decide +kernel) rfl) pa_nil))) (pe_and (pe_cmpR (op_eqP hr.units) (pe_callB call_len (by rfl) T.n_len (by decide +kernel) (pa_cons (pv 0) pa_nil)) pe_int (nomark _)) (pe_and (pe_cal C_is_name (hr.mono (by decide)) rfl pass0 (pa_cons (pe_ix ix_seq (pv 0) pe_int (fun _ _ => rfl)) pa_nil)) (pe_one (pe_cal C_is_number (hr.mono (by decide)) rfl pass0 (pa_cons (pe_ix ix_seq (pv 0) pe_int (fun _ _ => rfl)) (pa_cons pe_int (pa_cons pe_int pa_nil)))))))))), sd_is_end⟩
theorem ok_is_piece {f : Addr} {fd : FuncData} (F : Fun K "is_piece" "is_piece" s_is_piece f fd) (T : Txt K mg) (C_is_name : Cal P w K mg base CX0 1 "is_name" ["thing"] (sp_is_name K)) (C_is_number : Cal P w K mg base CX0 1 "is_number" ["thing", "one", "other"] (sp_is_number K)) : FnOk P w K mg base CX0 2 f fd ["thing"] (sp_is_piece K) :=
  okD F sc_is_piece (fun _ => rfl) fun cdv A outer s H E hr => ⟨t_is_piece K, by
    have nd := sc_is_piece.nd
    exact (pss_one (ps_ret (pe_and (pe_callB call_isi (by rfl) T.n_isinstance (by decide +kernel) (pa_cons (pv 0) (pa_cons (pe_bltn (v := .ty "tuple") (by rfl) T.n_tuple (by decide +kernel) rfl) pa_nil))) (pe_and (pe_cmpR (op_eqP hr.units) (pe_callB call_len (by rfl) T.n_len (by decide +kernel) (pa_cons (pv 0) pa_nil)) pe_int (nomark _)) (pe_and (pe_cal C_is_name (hr.mono (by decide)) rfl pass0 (pa_cons (pe_ix ix_seq (pv 0) pe_int (fun _ _ => rfl)) pa_nil)) (pe_one (pe_cal C_is_number (hr.mono (by decide)) rfl pass0 (pa_cons (pe_ix ix_seq (pv 0) pe_int (fun _ _ => rfl)) (pa_cons pe_int (pa_cons (pe_un un_neg pe_int) pa_nil)))))))))), sd_is_piece⟩
theorem ok_law_told {f : Addr} {fd : FuncData} (F : Fun K "_law_told" "_law_told" s_law_told f fd) (T : Txt K mg) (C_law_is_name : Cal P w K mg base CX0 1 "_law_is_name" ["_law_thing"] (sp_law_is_name K)) (C_law_is_pair : Cal P w K mg base CX0 2 "_law_is_pair" ["_law_thing", "_law_numbers"] (sp_law_is_pair K)) (C_is_end : Cal P w K mg base CX0 2 "is_end" ["thing"] (sp_is_end K)) (C_is_name : Cal P w K mg base CX0 1 "is_name" ["thing"] (sp_is_name K)) (C_is_piece : Cal P w K mg base CX0 2 "is_piece" ["thing"] (sp_is_piece K)) : FnOk P w K mg base CX0 3 f fd ["_law_thing"] (sp_law_told K) :=
  okD F sc_law_told (fun _ => rfl) fun cdv A outer s H E hr => ⟨t_law_told K, by
    have nd := sc_law_told.nd
    exact (pss_cons (ps_set (i := 1) nd rfl (by first | exact Or.inl rfl | exact Or.inr rfl) (pe_lst (pa_cons (pe_cal C_is_name (hr.mono (by decide)) rfl pass0 (pa_cons (pv 0) pa_nil)) (pa_cons (pe_cal C_is_piece (hr.mono (by decide)) rfl pass0 (pa_cons (pv 0) pa_nil)) (pa_cons (pe_cal C_is_end (hr.mono (by decide)) rfl pass0 (pa_cons (pv 0) pa_nil)) pa_nil))))) (pss_cons (ps_if (pt_cmpR (op_neP hr.units) (pe_lc (own := [("_law_one", 2)]) rfl nd (pi_any (pv 1)) (blkOk_by (N := N_law_told) (sc := defScope s_law_told) (by decide +kernel)) (fun _ _ _ _ _ => (pg_name (i := 2) nd rfl (by first | exact Or.inl rfl | exact Or.inr rfl))) (fun _ _ _ _ _ => pts_one (pt_not (pt_val (pe_callB call_isi (by rfl) T.n_isinstance (by decide +kernel) (pa_cons (pv 2) (pa_cons (pe_bltn (v := .ty "bool") (by rfl) T.n_bool (by decide +kernel) rfl) pa_nil)))))) (fun _ _ _ _ _ => (pv 2))) (pe_lst pa_nil) (nomark _)) (pss_one (ps_ret pe_bl)) pss_nil) (pss_one (ps_ret (pe_cmpR (op_eqP hr.units) (pv 1) (pe_lst (pa_cons (pe_cal C_law_is_name (hr.mono (by decide)) rfl pass0 (pa_cons (pv 0) pa_nil)) (pa_cons (pe_cal C_law_is_pair (hr.mono (by decide)) rfl pass0 (pa_cons (pv 0) (pa_cons (pe_lst (pa_cons pe_int (pa_cons (pe_un un_neg pe_int) pa_nil))) pa_nil))) (pa_cons (pe_cal C_law_is_pair (hr.mono (by decide)) rfl pass0 (pa_cons (pv 0) (pa_cons (pe_lst (pa_cons pe_int (pa_cons pe_int pa_nil))) pa_nil))) pa_nil)))) (nomark _)))))), sd_law_told⟩
theorem ok_begins {f : Addr} {fd : FuncData} (F : Fun K "begins" "begins" s_begins f fd) (T : Txt K mg) : FnOk P w K mg base CX0 1 f fd ["piece"] (sp_begins K) :=
  okD F sc_begins (fun _ => rfl) fun cdv A outer s H E hr => ⟨t_begins K, by
    have nd := sc_begins.nd
    exact (pss_one (ps_ret (pe_tup (pa_cons (pe_ix ix_seq (pv 0) pe_int (fun _ _ => rfl)) (pa_cons (pe_callTy call_int1 (by rfl) T.n_int (by decide +kernel) (pa_cons (pe_cmpR (op_eqP hr.units) (pe_ix ix_seq (pv 0) pe_int (fun _ _ => rfl)) (pe_un un_neg pe_int) (nomark _)) pa_nil)) pa_nil))))), fun a _ => sd_begins a⟩
theorem ok_ends {f : Addr} {fd : FuncData} (F : Fun K "ends" "ends" s_ends f fd) (T : Txt K mg) : FnOk P w K mg base CX0 1 f fd ["piece"] (sp_ends K) :=
  okD F sc_ends (fun _ => rfl) fun cdv A outer s H E hr => ⟨t_ends K, by
    have nd := sc_ends.nd
    exact (pss_one (ps_ret (pe_tup (pa_cons (pe_ix ix_seq (pv 0) pe_int (fun _ _ => rfl)) (pa_cons (pe_callTy call_int1 (by rfl) T.n_int (by decide +kernel) (pa_cons (pe_cmpR (op_eqP hr.units) (pe_ix ix_seq (pv 0) pe_int (fun _ _ => rfl)) pe_int (nomark _)) pa_nil)) pa_nil))))), fun a _ => sd_ends a⟩
theorem ok_other_end {f : Addr} {fd : FuncData} (F : Fun K "other_end" "other_end" s_other_end f fd) (T : Txt K mg) : FnOk P w K mg base CX0 1 f fd ["end"] (sp_other_end K) :=
  okD F sc_other_end (fun _ => rfl) fun cdv A outer s H E hr => ⟨t_other_end K, by
    have nd := sc_other_end.nd
    exact (pss_one (ps_ret (pe_tup (pa_cons (pe_ix ix_seq (pv 0) pe_int (fun _ _ => rfl)) (pa_cons (pe_op op_sub pe_int (pe_ix ix_seq (pv 0) pe_int (fun _ _ => rfl))) pa_nil))))), fun a _ => sd_other_end a⟩
theorem ok_place_of {f : Addr} {fd : FuncData} (F : Fun K "place_of" "place_of" s_place_of f fd) (T : Txt K mg) : FnOk P w K mg base CX0 1 f fd ["one", "other"] (sp_place_of K) :=
  okD F sc_place_of (fun _ => rfl) fun cdv A outer s H E hr => ⟨t_place_of K, by
    have nd := sc_place_of.nd
    exact (pss_one (ps_ret (pe_tup (pa_cons (pe_callB (cr_min2 rfl hr.units) (by rfl) T.n_min (by decide +kernel) (pa_cons (pv 0) (pa_cons (pv 1) pa_nil))) (pa_cons (pe_callB (cr_max2 rfl hr.units) (by rfl) T.n_max (by decide +kernel) (pa_cons (pv 0) (pa_cons (pv 1) pa_nil))) pa_nil))))), fun a _ => sd_place_of a⟩
theorem ok_law {f : Addr} {fd : FuncData} (F : Fun K "law" "law" s_law f fd) (T : Txt K mg) (C_law_draw : Cal P w K mg base CX0 1 "_law_draw" ["_law_script", "_law_at", "_law_many"] (sp_law_draw K)) (C_law_is_pair : Cal P w K mg base CX0 2 "_law_is_pair" ["_law_thing", "_law_numbers"] (sp_law_is_pair K)) (C_law_name : Cal P w K mg base CX0 2 "_law_name" ["_law_script", "_law_at"] (sp_law_name K)) (C_law_odd : Cal P w K mg base CX0 2 "_law_odd" ["_law_script", "_law_at", "_law_name_here"] (sp_law_odd K)) (C_law_told : Cal P w K mg base CX0 3 "_law_told" ["_law_thing"] (sp_law_told K)) (C_begins : Cal P w K mg base CX0 1 "begins" ["piece"] (sp_begins K)) (C_ends : Cal P w K mg base CX0 1 "ends" ["piece"] (sp_ends K)) (C_other_end : Cal P w K mg base CX0 1 "other_end" ["end"] (sp_other_end K)) (C_place_of : Cal P w K mg base CX0 1 "place_of" ["one", "other"] (sp_place_of K)) : FnOk P w K mg base CX0 4 f fd ["_law_script"] (spLaw K) :=
  okLaw 10 F sc_law rfl rfl fun cdv A outer s H E hr => ⟨t_law_r K, by
    have nd := sc_law.nd
    exact (pss_cons (ps_set (i := 1) nd rfl (by first | exact Or.inl rfl | exact Or.inr rfl) (pe_lst (pa_cons pe_int pa_nil))) (pss_cons (ps_for PassesOwn.never rfl (pi_range1 rfl T.n_range (pa_cons (pe_callB (cr_max2 rfl hr.units) (by rfl) T.n_max (by decide +kernel) (pa_cons pe_int (pa_cons (pe_callB call_len (by rfl) T.n_len (by decide +kernel) (pa_cons (pv 0) pa_nil)) pa_nil))) pa_nil)) (pg_name (i := 2) nd rfl (by first | exact Or.inl rfl | exact Or.inr rfl)) (pss_cons (ps_par (i := 3) (j := 4) rfl nd rfl rfl (by decide) rfl rfl (pa_cons (pe_cal C_law_name (hr.mono (by decide)) rfl pass0 (pa_cons (pv 0) (pa_cons (pv 1) pa_nil))) (pa_cons (pe_cal C_law_name (hr.mono (by decide)) rfl pass0 (pa_cons (pv 0) (pa_cons (pv 1) pa_nil))) pa_nil)) (by rfl)) (pss_cons (ps_set (i := 5) nd rfl (by first | exact Or.inl rfl | exact Or.inr rfl) (pe_op op_sub pe_int (pe_op op_mulA pe_int (pe_cal C_law_draw (hr.mono (by decide)) rfl pass0 (pa_cons (pv 0) (pa_cons (pv 1) (pa_cons pe_int pa_nil))))))) (pss_cons (ps_par (i := 6) (j := 7) rfl nd rfl rfl (by decide) rfl rfl (pa_cons (pe_tup (pa_cons (pv 3) (pa_cons pe_int pa_nil))) (pa_cons (pe_tup (pa_cons (pv 3) (pa_cons pe_int pa_nil))) pa_nil)) (by rfl)) (pss_cons (ps_for PassesOwn.never rfl (pi_any (pe_tup (pa_cons (pv 3) (pa_cons (pe_tup (pa_cons (pv 3) (pa_cons (pv 5) pa_nil))) (pa_cons (pv 6) (pa_cons (pv 7) (pa_cons (pe_cal C_law_odd (hr.mono (by decide)) rfl pass0 (pa_cons (pv 0) (pa_cons (pv 1) (pa_cons (pv 3) pa_nil)))) (pa_cons (pe_cal C_law_odd (hr.mono (by decide)) rfl pass0 (pa_cons (pv 0) (pa_cons (pv 1) (pa_cons (pv 4) pa_nil)))) pa_nil)))))))) (pg_name (i := 8) nd rfl (by first | exact Or.inl rfl | exact Or.inr rfl)) (pss_one (ps_if (pt_not (pt_val (pe_cal C_law_told (hr.mono (by decide)) rfl pass0 (pa_cons (pv 8) pa_nil)))) (pss_one (ps_ret pe_bl)) pss_nil))) (pss_cons (ps_set (i := 9) nd rfl (by first | exact Or.inl rfl | exact Or.inr rfl) (pe_lst (pa_cons (pe_cal C_begins (hr.mono (by decide)) rfl pass0 (pa_cons (pe_tup (pa_cons (pv 3) (pa_cons (pv 5) pa_nil))) pa_nil)) (pa_cons (pe_cal C_ends (hr.mono (by decide)) rfl pass0 (pa_cons (pe_tup (pa_cons (pv 3) (pa_cons (pv 5) pa_nil))) pa_nil)) pa_nil)))) (pss_cons (ps_if (PW.pt (pw_or (pt_cmpR (op_neP hr.units) (pv 9) (pe_step (pe_lst (pa_cons (pv 6) (pa_cons (pv 7) pa_nil))) (pv 5)) (nomark _)) (pw_or (pt_cmpR (op_neP hr.units) (pe_cal C_other_end (hr.mono (by decide)) rfl pass0 (pa_cons (pv 6) pa_nil)) (pv 7) (nomark _)) (pw_or1 (pt_cmpR (op_neP hr.units) (pe_cal C_other_end (hr.mono (by decide)) rfl pass0 (pa_cons (pv 7) pa_nil)) (pv 6) (nomark _)))))) (pss_one (ps_ret pe_bl)) pss_nil) (pss_cons (ps_set (i := 10) nd rfl (by first | exact Or.inl rfl | exact Or.inr rfl) (pe_tup (pa_cons (pv 4) (pa_cons (pe_cal C_law_draw (hr.mono (by decide)) rfl pass0 (pa_cons (pv 0) (pa_cons (pv 1) (pa_cons pe_int pa_nil)))) pa_nil)))) (pss_cons (ps_set (i := 11) nd rfl (by first | exact Or.inl rfl | exact Or.inr rfl) (pe_ifExp (pt_cmpR (op_ltP hr.units) (pv 6) (pv 10) (nomark _)) (pe_tup (pa_cons (pv 6) (pa_cons (pv 10) pa_nil))) (pe_tup (pa_cons (pv 10) (pa_cons (pv 6) pa_nil))))) (pss_cons (ps_if (PW.pt (pw_or (pt_cmpR (op_neP hr.units) (pe_cal C_place_of (hr.mono (by decide)) rfl pass0 (pa_cons (pv 6) (pa_cons (pv 10) pa_nil))) (pv 11) (nomark _)) (pw_or1 (pt_cmpR (op_neP hr.units) (pe_cal C_place_of (hr.mono (by decide)) rfl pass0 (pa_cons (pv 10) (pa_cons (pv 6) pa_nil))) (pv 11) (nomark _))))) (pss_one (ps_ret pe_bl)) pss_nil) (pss_cons (ps_if (PW.pt (pw_or (pt_cmpR (op_neP hr.units) (pe_cal C_place_of (hr.mono (by decide)) rfl pass0 (pa_cons (pe_tup pa_nil) (pa_cons (pv 7) pa_nil))) (pe_tup (pa_cons (pe_tup pa_nil) (pa_cons (pv 7) pa_nil))) (nomark _)) (pw_or1 (pt_cmpR (op_neP hr.units) (pe_cal C_place_of (hr.mono (by decide)) rfl pass0 (pa_cons (pv 7) (pa_cons (pe_tup pa_nil) pa_nil))) (pe_tup (pa_cons (pe_tup pa_nil) (pa_cons (pv 7) pa_nil))) (nomark _))))) (pss_one (ps_ret pe_bl)) pss_nil) (pss_one (ps_if (PW.pt (pw_or (pt_not (pt_val (pe_cal C_law_told (hr.mono (by decide)) rfl pass0 (pa_cons (pe_ix ix_seq (pv 9) pe_int (fun _ _ => rfl)) pa_nil)))) (pw_or1 (pt_not (pt_val (pe_cal C_law_is_pair (hr.mono (by decide)) rfl pass0 (pa_cons (pe_ix ix_seq (pv 9) pe_int (fun _ _ => rfl)) (pa_cons (pe_lst (pa_cons pe_int (pa_cons pe_int pa_nil))) pa_nil)))))))) (pss_one (ps_ret pe_bl)) pss_nil))))))))))))) (pss_one (ps_ret pe_bl)))), sd_law⟩
end
end CJ

set_option Elab.async false
set_option linter.all false
set_option maxRecDepth 100000
set_option maxHeartbeats 4000000
namespace CJ
open PySem L2
theorem all_mk {l : PySem.W.OpenLaw} {w : World} {K : PySem.W.Frag} {h : Heap} {mg : Str → Option Value} {fa : Addr} (X : K.In h) (G : h.Ns mainGlobals mg) (hfa : mg "law" = some (.ref fa))
    {f_law_draw : Addr} {od_law_draw an_law_draw : Option Addr} {sl_law_draw : Array (Option Value)} {oc_law_draw kV_law_draw dc_law_draw pm_law_draw cd_law_draw ct_law_draw : Value}
    (a_law_draw : PySem.W.nsIn K mainGlobals "_law_draw" = some (some (.ref f_law_draw))) (l_law_draw : K.lookup f_law_draw = some ⟨oc_law_draw, od_law_draw, .func (PySem.W.fnOf "_law_draw" "_law_draw" (defArgs s_law_draw) (defBody s_law_draw) (defScope s_law_draw) .none kV_law_draw dc_law_draw pm_law_draw an_law_draw cd_law_draw ct_law_draw), sl_law_draw⟩) (c_law_draw : PySem.W.codeIn K cd_law_draw "_law_draw" = true) (k_law_draw : PySem.W.keepIn K (.ref f_law_draw) = true)
    {f_law_is_name : Addr} {od_law_is_name an_law_is_name : Option Addr} {sl_law_is_name : Array (Option Value)} {oc_law_is_name kV_law_is_name dc_law_is_name pm_law_is_name cd_law_is_name ct_law_is_name : Value}
    (a_law_is_name : PySem.W.nsIn K mainGlobals "_law_is_name" = some (some (.ref f_law_is_name))) (l_law_is_name : K.lookup f_law_is_name = some ⟨oc_law_is_name, od_law_is_name, .func (PySem.W.fnOf "_law_is_name" "_law_is_name" (defArgs s_law_is_name) (defBody s_law_is_name) (defScope s_law_is_name) .none kV_law_is_name dc_law_is_name pm_law_is_name an_law_is_name cd_law_is_name ct_law_is_name), sl_law_is_name⟩) (c_law_is_name : PySem.W.codeIn K cd_law_is_name "_law_is_name" = true) (k_law_is_name : PySem.W.keepIn K (.ref f_law_is_name) = true)
    {f_law_is_pair : Addr} {od_law_is_pair an_law_is_pair : Option Addr} {sl_law_is_pair : Array (Option Value)} {oc_law_is_pair kV_law_is_pair dc_law_is_pair pm_law_is_pair cd_law_is_pair ct_law_is_pair : Value}
    (a_law_is_pair : PySem.W.nsIn K mainGlobals "_law_is_pair" = some (some (.ref f_law_is_pair))) (l_law_is_pair : K.lookup f_law_is_pair = some ⟨oc_law_is_pair, od_law_is_pair, .func (PySem.W.fnOf "_law_is_pair" "_law_is_pair" (defArgs s_law_is_pair) (defBody s_law_is_pair) (defScope s_law_is_pair) .none kV_law_is_pair dc_law_is_pair pm_law_is_pair an_law_is_pair cd_law_is_pair ct_law_is_pair), sl_law_is_pair⟩) (c_law_is_pair : PySem.W.codeIn K cd_law_is_pair "_law_is_pair" = true) (k_law_is_pair : PySem.W.keepIn K (.ref f_law_is_pair) = true)
    {f_law_name : Addr} {od_law_name an_law_name : Option Addr} {sl_law_name : Array (Option Value)} {oc_law_name kV_law_name dc_law_name pm_law_name cd_law_name ct_law_name : Value}
    (a_law_name : PySem.W.nsIn K mainGlobals "_law_name" = some (some (.ref f_law_name))) (l_law_name : K.lookup f_law_name = some ⟨oc_law_name, od_law_name, .func (PySem.W.fnOf "_law_name" "_law_name" (defArgs s_law_name) (defBody s_law_name) (defScope s_law_name) .none kV_law_name dc_law_name pm_law_name an_law_name cd_law_name ct_law_name), sl_law_name⟩) (c_law_name : PySem.W.codeIn K cd_law_name "_law_name" = true) (k_law_name : PySem.W.keepIn K (.ref f_law_name) = true)
    {f_law_odd : Addr} {od_law_odd an_law_odd : Option Addr} {sl_law_odd : Array (Option Value)} {oc_law_odd kV_law_odd dc_law_odd pm_law_odd cd_law_odd ct_law_odd : Value}
    (a_law_odd : PySem.W.nsIn K mainGlobals "_law_odd" = some (some (.ref f_law_odd))) (l_law_odd : K.lookup f_law_odd = some ⟨oc_law_odd, od_law_odd, .func (PySem.W.fnOf "_law_odd" "_law_odd" (defArgs s_law_odd) (defBody s_law_odd) (defScope s_law_odd) .none kV_law_odd dc_law_odd pm_law_odd an_law_odd cd_law_odd ct_law_odd), sl_law_odd⟩) (c_law_odd : PySem.W.codeIn K cd_law_odd "_law_odd" = true) (k_law_odd : PySem.W.keepIn K (.ref f_law_odd) = true)
    {f_is_name : Addr} {od_is_name an_is_name : Option Addr} {sl_is_name : Array (Option Value)} {oc_is_name kV_is_name dc_is_name pm_is_name cd_is_name ct_is_name : Value}
    (a_is_name : PySem.W.nsIn K mainGlobals "is_name" = some (some (.ref f_is_name))) (l_is_name : K.lookup f_is_name = some ⟨oc_is_name, od_is_name, .func (PySem.W.fnOf "is_name" "is_name" (defArgs s_is_name) (defBody s_is_name) (defScope s_is_name) .none kV_is_name dc_is_name pm_is_name an_is_name cd_is_name ct_is_name), sl_is_name⟩) (c_is_name : PySem.W.codeIn K cd_is_name "is_name" = true) (k_is_name : PySem.W.keepIn K (.ref f_is_name) = true)
    {f_is_number : Addr} {od_is_number an_is_number : Option Addr} {sl_is_number : Array (Option Value)} {oc_is_number kV_is_number dc_is_number pm_is_number cd_is_number ct_is_number : Value}
    (a_is_number : PySem.W.nsIn K mainGlobals "is_number" = some (some (.ref f_is_number))) (l_is_number : K.lookup f_is_number = some ⟨oc_is_number, od_is_number, .func (PySem.W.fnOf "is_number" "is_number" (defArgs s_is_number) (defBody s_is_number) (defScope s_is_number) .none kV_is_number dc_is_number pm_is_number an_is_number cd_is_number ct_is_number), sl_is_number⟩) (c_is_number : PySem.W.codeIn K cd_is_number "is_number" = true) (k_is_number : PySem.W.keepIn K (.ref f_is_number) = true)
    {f_is_end : Addr} {od_is_end an_is_end : Option Addr} {sl_is_end : Array (Option Value)} {oc_is_end kV_is_end dc_is_end pm_is_end cd_is_end ct_is_end : Value}
    (a_is_end : PySem.W.nsIn K mainGlobals "is_end" = some (some (.ref f_is_end))) (l_is_end : K.lookup f_is_end = some ⟨oc_is_end, od_is_end, .func (PySem.W.fnOf "is_end" "is_end" (defArgs s_is_end) (defBody s_is_end) (defScope s_is_end) .none kV_is_end dc_is_end pm_is_end an_is_end cd_is_end ct_is_end), sl_is_end⟩) (c_is_end : PySem.W.codeIn K cd_is_end "is_end" = true) (k_is_end : PySem.W.keepIn K (.ref f_is_end) = true)
    {f_is_piece : Addr} {od_is_piece an_is_piece : Option Addr} {sl_is_piece : Array (Option Value)} {oc_is_piece kV_is_piece dc_is_piece pm_is_piece cd_is_piece ct_is_piece : Value}
    (a_is_piece : PySem.W.nsIn K mainGlobals "is_piece" = some (some (.ref f_is_piece))) (l_is_piece : K.lookup f_is_piece = some ⟨oc_is_piece, od_is_piece, .func (PySem.W.fnOf "is_piece" "is_piece" (defArgs s_is_piece) (defBody s_is_piece) (defScope s_is_piece) .none kV_is_piece dc_is_piece pm_is_piece an_is_piece cd_is_piece ct_is_piece), sl_is_piece⟩) (c_is_piece : PySem.W.codeIn K cd_is_piece "is_piece" = true) (k_is_piece : PySem.W.keepIn K (.ref f_is_piece) = true)
    {f_law_told : Addr} {od_law_told an_law_told : Option Addr} {sl_law_told : Array (Option Value)} {oc_law_told kV_law_told dc_law_told pm_law_told cd_law_told ct_law_told : Value}
    (a_law_told : PySem.W.nsIn K mainGlobals "_law_told" = some (some (.ref f_law_told))) (l_law_told : K.lookup f_law_told = some ⟨oc_law_told, od_law_told, .func (PySem.W.fnOf "_law_told" "_law_told" (defArgs s_law_told) (defBody s_law_told) (defScope s_law_told) .none kV_law_told dc_law_told pm_law_told an_law_told cd_law_told ct_law_told), sl_law_told⟩) (c_law_told : PySem.W.codeIn K cd_law_told "_law_told" = true) (k_law_told : PySem.W.keepIn K (.ref f_law_told) = true)
    {f_begins : Addr} {od_begins an_begins : Option Addr} {sl_begins : Array (Option Value)} {oc_begins kV_begins dc_begins pm_begins cd_begins ct_begins : Value}
    (a_begins : PySem.W.nsIn K mainGlobals "begins" = some (some (.ref f_begins))) (l_begins : K.lookup f_begins = some ⟨oc_begins, od_begins, .func (PySem.W.fnOf "begins" "begins" (defArgs s_begins) (defBody s_begins) (defScope s_begins) .none kV_begins dc_begins pm_begins an_begins cd_begins ct_begins), sl_begins⟩) (c_begins : PySem.W.codeIn K cd_begins "begins" = true) (k_begins : PySem.W.keepIn K (.ref f_begins) = true)
    {f_ends : Addr} {od_ends an_ends : Option Addr} {sl_ends : Array (Option Value)} {oc_ends kV_ends dc_ends pm_ends cd_ends ct_ends : Value}
    (a_ends : PySem.W.nsIn K mainGlobals "ends" = some (some (.ref f_ends))) (l_ends : K.lookup f_ends = some ⟨oc_ends, od_ends, .func (PySem.W.fnOf "ends" "ends" (defArgs s_ends) (defBody s_ends) (defScope s_ends) .none kV_ends dc_ends pm_ends an_ends cd_ends ct_ends), sl_ends⟩) (c_ends : PySem.W.codeIn K cd_ends "ends" = true) (k_ends : PySem.W.keepIn K (.ref f_ends) = true)
    {f_other_end : Addr} {od_other_end an_other_end : Option Addr} {sl_other_end : Array (Option Value)} {oc_other_end kV_other_end dc_other_end pm_other_end cd_other_end ct_other_end : Value}
    (a_other_end : PySem.W.nsIn K mainGlobals "other_end" = some (some (.ref f_other_end))) (l_other_end : K.lookup f_other_end = some ⟨oc_other_end, od_other_end, .func (PySem.W.fnOf "other_end" "other_end" (defArgs s_other_end) (defBody s_other_end) (defScope s_other_end) .none kV_other_end dc_other_end pm_other_end an_other_end cd_other_end ct_other_end), sl_other_end⟩) (c_other_end : PySem.W.codeIn K cd_other_end "other_end" = true) (k_other_end : PySem.W.keepIn K (.ref f_other_end) = true)
    {f_place_of : Addr} {od_place_of an_place_of : Option Addr} {sl_place_of : Array (Option Value)} {oc_place_of kV_place_of dc_place_of pm_place_of cd_place_of ct_place_of : Value}
    (a_place_of : PySem.W.nsIn K mainGlobals "place_of" = some (some (.ref f_place_of))) (l_place_of : K.lookup f_place_of = some ⟨oc_place_of, od_place_of, .func (PySem.W.fnOf "place_of" "place_of" (defArgs s_place_of) (defBody s_place_of) (defScope s_place_of) .none kV_place_of dc_place_of pm_place_of an_place_of cd_place_of ct_place_of), sl_place_of⟩) (c_place_of : PySem.W.codeIn K cd_place_of "place_of" = true) (k_place_of : PySem.W.keepIn K (.ref f_place_of) = true)
    {f_law : Addr} {od_law an_law : Option Addr} {sl_law : Array (Option Value)} {oc_law kV_law dc_law pm_law cd_law ct_law : Value}
    (a_law : PySem.W.nsIn K mainGlobals "law" = some (some (.ref f_law))) (l_law : K.lookup f_law = some ⟨oc_law, od_law, .func (PySem.W.fnOf "law" "law" (defArgs s_law) (defBody s_law) (defScope s_law) .none kV_law dc_law pm_law an_law cd_law ct_law), sl_law⟩) (c_law : PySem.W.codeIn K cd_law "law" = true) (k_law : PySem.W.keepIn K (.ref f_law) = true)
    (z_int : PySem.W.nsIn K mainGlobals "int" = some none)
    (z_len : PySem.W.nsIn K mainGlobals "len" = some none)
    (z_isinstance : PySem.W.nsIn K mainGlobals "isinstance" = some none)
    (z_str : PySem.W.nsIn K mainGlobals "str" = some none)
    (z_bool : PySem.W.nsIn K mainGlobals "bool" = some none)
    (z_tuple : PySem.W.nsIn K mainGlobals "tuple" = some none)
    (z_range : PySem.W.nsIn K mainGlobals "range" = some none)
    (z_all : PySem.W.nsIn K mainGlobals "all" = some none)
    {t_LETTERS : Tok} (g_LETTERS : PySem.W.nsIn K mainGlobals "LETTERS" = some (some (.str ("abcdefghijklmnopqrstuvwxyz" : Str) t_LETTERS)))
    {t_MOST_LETTERS : Tok} (g_MOST_LETTERS : PySem.W.nsIn K mainGlobals "MOST_LETTERS" = some (some (.int 8 t_MOST_LETTERS)))
    (z_max : PySem.W.nsIn K mainGlobals "max" = some none)
    (z_min : PySem.W.nsIn K mainGlobals "min" = some none) :
    ∃ fd : FuncData, (∀ (s : Shared) (v : Value), BindsTo s fd ⟨[v], []⟩ [("_law_script", v)]) ∧ ∀ base : Heap, K.In base → base.Ns mainGlobals mg → FnOk l.prog w K mg base CX0 4 fa fd ["_law_script"] (spLaw K) := by
  have e := hfa.symm.trans (PySem.W.mg_of X G a_law)
  cases e
  have T : Txt K mg := ⟨PySem.W.mg_none_of X G z_int, PySem.W.mg_none_of X G z_len, PySem.W.mg_none_of X G z_isinstance, PySem.W.mg_none_of X G z_str, PySem.W.mg_none_of X G z_bool, PySem.W.mg_none_of X G z_tuple, PySem.W.mg_none_of X G z_range, PySem.W.mg_none_of X G z_all, ⟨_, PySem.W.mg_of X G g_LETTERS⟩, ⟨_, PySem.W.mg_of X G g_MOST_LETTERS⟩, PySem.W.mg_none_of X G z_max, PySem.W.mg_none_of X G z_min⟩
  have F_law_draw := fun_mk (st := s_law_draw) l_law_draw c_law_draw k_law_draw
  have F_law_is_name := fun_mk (st := s_law_is_name) l_law_is_name c_law_is_name k_law_is_name
  have F_law_is_pair := fun_mk (st := s_law_is_pair) l_law_is_pair c_law_is_pair k_law_is_pair
  have F_law_name := fun_mk (st := s_law_name) l_law_name c_law_name k_law_name
  have F_law_odd := fun_mk (st := s_law_odd) l_law_odd c_law_odd k_law_odd
  have F_is_name := fun_mk (st := s_is_name) l_is_name c_is_name k_is_name
  have F_is_number := fun_mk (st := s_is_number) l_is_number c_is_number k_is_number
  have F_is_end := fun_mk (st := s_is_end) l_is_end c_is_end k_is_end
  have F_is_piece := fun_mk (st := s_is_piece) l_is_piece c_is_piece k_is_piece
  have F_law_told := fun_mk (st := s_law_told) l_law_told c_law_told k_law_told
  have F_begins := fun_mk (st := s_begins) l_begins c_begins k_begins
  have F_ends := fun_mk (st := s_ends) l_ends c_ends k_ends
  have F_other_end := fun_mk (st := s_other_end) l_other_end c_other_end k_other_end
  have F_place_of := fun_mk (st := s_place_of) l_place_of c_place_of k_place_of
  have F_law := fun_mk (st := s_law) l_law c_law k_law
  refine ⟨PySem.W.fnOf "law" "law" (defArgs s_law) (defBody s_law) (defScope s_law) .none kV_law dc_law pm_law an_law cd_law ct_law, fun s v => .of_eq rfl, fun base _ _ => ?_⟩
  have C_law_draw : Cal l.prog w K mg base CX0 1 "_law_draw" ["_law_script", "_law_at", "_law_many"] (sp_law_draw K) := ⟨_, _, PySem.W.mg_of X G a_law_draw, k_law_draw, F_law_draw.binds (ps := ["_law_script", "_law_at", "_law_many"]) (fun _ _ _ _ _ _ us hl => match us, hl with | [_, _, _], _ => rfl), ok_law_draw F_law_draw T ⟩
  have C_law_is_name : Cal l.prog w K mg base CX0 1 "_law_is_name" ["_law_thing"] (sp_law_is_name K) := ⟨_, _, PySem.W.mg_of X G a_law_is_name, k_law_is_name, F_law_is_name.binds (ps := ["_law_thing"]) (fun _ _ _ _ _ _ us hl => match us, hl with | [_], _ => rfl), ok_law_is_name F_law_is_name T ⟩
  have C_law_is_pair : Cal l.prog w K mg base CX0 2 "_law_is_pair" ["_law_thing", "_law_numbers"] (sp_law_is_pair K) := ⟨_, _, PySem.W.mg_of X G a_law_is_pair, k_law_is_pair, F_law_is_pair.binds (ps := ["_law_thing", "_law_numbers"]) (fun _ _ _ _ _ _ us hl => match us, hl with | [_, _], _ => rfl), ok_law_is_pair F_law_is_pair T C_law_is_name⟩
  have C_law_name : Cal l.prog w K mg base CX0 2 "_law_name" ["_law_script", "_law_at"] (sp_law_name K) := ⟨_, _, PySem.W.mg_of X G a_law_name, k_law_name, F_law_name.binds (ps := ["_law_script", "_law_at"]) (fun _ _ _ _ _ _ us hl => match us, hl with | [_, _], _ => rfl), ok_law_name F_law_name T C_law_draw⟩
  have C_law_odd : Cal l.prog w K mg base CX0 2 "_law_odd" ["_law_script", "_law_at", "_law_name_here"] (sp_law_odd K) := ⟨_, _, PySem.W.mg_of X G a_law_odd, k_law_odd, F_law_odd.binds (ps := ["_law_script", "_law_at", "_law_name_here"]) (fun _ _ _ _ _ _ us hl => match us, hl with | [_, _, _], _ => rfl), ok_law_odd F_law_odd T C_law_draw⟩
  have C_is_name : Cal l.prog w K mg base CX0 1 "is_name" ["thing"] (sp_is_name K) := ⟨_, _, PySem.W.mg_of X G a_is_name, k_is_name, F_is_name.binds (ps := ["thing"]) (fun _ _ _ _ _ _ us hl => match us, hl with | [_], _ => rfl), ok_is_name F_is_name T ⟩
  have C_is_number : Cal l.prog w K mg base CX0 1 "is_number" ["thing", "one", "other"] (sp_is_number K) := ⟨_, _, PySem.W.mg_of X G a_is_number, k_is_number, F_is_number.binds (ps := ["thing", "one", "other"]) (fun _ _ _ _ _ _ us hl => match us, hl with | [_, _, _], _ => rfl), ok_is_number F_is_number T ⟩
  have C_is_end : Cal l.prog w K mg base CX0 2 "is_end" ["thing"] (sp_is_end K) := ⟨_, _, PySem.W.mg_of X G a_is_end, k_is_end, F_is_end.binds (ps := ["thing"]) (fun _ _ _ _ _ _ us hl => match us, hl with | [_], _ => rfl), ok_is_end F_is_end T C_is_name C_is_number⟩
  have C_is_piece : Cal l.prog w K mg base CX0 2 "is_piece" ["thing"] (sp_is_piece K) := ⟨_, _, PySem.W.mg_of X G a_is_piece, k_is_piece, F_is_piece.binds (ps := ["thing"]) (fun _ _ _ _ _ _ us hl => match us, hl with | [_], _ => rfl), ok_is_piece F_is_piece T C_is_name C_is_number⟩
  have C_law_told : Cal l.prog w K mg base CX0 3 "_law_told" ["_law_thing"] (sp_law_told K) := ⟨_, _, PySem.W.mg_of X G a_law_told, k_law_told, F_law_told.binds (ps := ["_law_thing"]) (fun _ _ _ _ _ _ us hl => match us, hl with | [_], _ => rfl), ok_law_told F_law_told T C_law_is_name C_law_is_pair C_is_end C_is_name C_is_piece⟩
  have C_begins : Cal l.prog w K mg base CX0 1 "begins" ["piece"] (sp_begins K) := ⟨_, _, PySem.W.mg_of X G a_begins, k_begins, F_begins.binds (ps := ["piece"]) (fun _ _ _ _ _ _ us hl => match us, hl with | [_], _ => rfl), ok_begins F_begins T ⟩
  have C_ends : Cal l.prog w K mg base CX0 1 "ends" ["piece"] (sp_ends K) := ⟨_, _, PySem.W.mg_of X G a_ends, k_ends, F_ends.binds (ps := ["piece"]) (fun _ _ _ _ _ _ us hl => match us, hl with | [_], _ => rfl), ok_ends F_ends T ⟩
  have C_other_end : Cal l.prog w K mg base CX0 1 "other_end" ["end"] (sp_other_end K) := ⟨_, _, PySem.W.mg_of X G a_other_end, k_other_end, F_other_end.binds (ps := ["end"]) (fun _ _ _ _ _ _ us hl => match us, hl with | [_], _ => rfl), ok_other_end F_other_end T ⟩
  have C_place_of : Cal l.prog w K mg base CX0 1 "place_of" ["one", "other"] (sp_place_of K) := ⟨_, _, PySem.W.mg_of X G a_place_of, k_place_of, F_place_of.binds (ps := ["one", "other"]) (fun _ _ _ _ _ _ us hl => match us, hl with | [_, _], _ => rfl), ok_place_of F_place_of T ⟩
  exact ok_law F_law T C_law_draw C_law_is_pair C_law_name C_law_odd C_law_told C_begins C_ends C_other_end C_place_of
theorem walk {l : PySem.W.OpenLaw} {q : Program} {loose : List Str} {XP : (Str → Option Value) → Heap → Prop} {YP : World → Heap → Prop} {d : DefRec} {K : Params → PySem.W.Frag} (hn : l.most = some 63) (hdf : d.params.defaults = [])
    (hY : ∀ (w : World) (h : Heap), YP w h → (K w.params).In h)
    (F : ∀ (w : World) (mg : Str → Option Value) (fa : Addr) (h : Heap), (K w.params).In h → h.Ns mainGlobals mg → mg d.name = some (.ref fa) →
      ∃ fd : FuncData, (∀ (s : Shared) (u : Value), BindsTo s fd ⟨[u], []⟩ [("_law_script", u)]) ∧ ∀ base : Heap, (K w.params).In base → base.Ns mainGlobals mg → FnOk l.prog w (K w.params) mg base CX0 4 fa fd ["_law_script"] (spLaw (K w.params))) :
    PySem.W.WalkO q loose XP YP l.row.toRowW d [] (fun f vs => PySem.call f vs) :=
  L2.walk_of (n := 63) (k := 4) (x := "_law_script") (CX := fun _ => CX0) (sp := fun w => spLaw (K w.params)) hn (by decide) hdf ⟨rfl, by decide, by decide⟩ hY F (fun _ _ a ns hl _ hS => ⟨a, ns, rfl, hS, hl, fun _ => rfl⟩) fun _ _ _ _ _ z => z
end CJ
open PySem PySem.W PyProof.Rows
set_option maxRecDepth 100000 in
set_option maxHeartbeats 0 in
theorem PySem.Challenge.cw_cutjoin_k01_pieces_and_ends_holds : PySem.Challenge.rw_cutjoin_k01_pieces_and_ends.Holds := by
  w_on; o_law; k_head; (case hw => w_witness2)
  k_fill
  refine CJ.walk (l := PySem.Challenge.rw_cutjoin_k01_pieces_and_ends) rfl rfl (fun w h Y => PySem.W.kIn_of Y) ?F
  case F =>
    intro w mg fa h KX G hmg
    refine' CJ.all_mk KX G hmg ?a_law_draw ?l_law_draw ?c_law_draw ?k_law_draw ?a_law_is_name ?l_law_is_name ?c_law_is_name ?k_law_is_name ?a_law_is_pair ?l_law_is_pair ?c_law_is_pair ?k_law_is_pair ?a_law_name ?l_law_name ?c_law_name ?k_law_name ?a_law_odd ?l_law_odd ?c_law_odd ?k_law_odd ?a_is_name ?l_is_name ?c_is_name ?k_is_name ?a_is_number ?l_is_number ?c_is_number ?k_is_number ?a_is_end ?l_is_end ?c_is_end ?k_is_end ?a_is_piece ?l_is_piece ?c_is_piece ?k_is_piece ?a_law_told ?l_law_told ?c_law_told ?k_law_told ?a_begins ?l_begins ?c_begins ?k_begins ?a_ends ?l_ends ?c_ends ?k_ends ?a_other_end ?l_other_end ?c_other_end ?k_other_end ?a_place_of ?l_place_of ?c_place_of ?k_place_of ?a_law ?l_law ?c_law ?k_law ?z_int ?z_len ?z_isinstance ?z_str ?z_bool ?z_tuple ?z_range ?z_all ?g_LETTERS ?g_MOST_LETTERS ?z_max ?z_min
    (case a_law_draw => k_is); (case l_law_draw => k_is); (case c_law_draw => k_is); (case k_law_draw => k_is); (case a_law_is_name => k_is); (case l_law_is_name => k_is)
    (case c_law_is_name => k_is); (case k_law_is_name => k_is); (case a_law_is_pair => k_is); (case l_law_is_pair => k_is); (case c_law_is_pair => k_is); (case k_law_is_pair => k_is)
    (case a_law_name => k_is); (case l_law_name => k_is); (case c_law_name => k_is); (case k_law_name => k_is); (case a_law_odd => k_is); (case l_law_odd => k_is)
    (case c_law_odd => k_is); (case k_law_odd => k_is); (case a_is_name => k_is); (case l_is_name => k_is); (case c_is_name => k_is); (case k_is_name => k_is)
    (case a_is_number => k_is); (case l_is_number => k_is); (case c_is_number => k_is); (case k_is_number => k_is); (case a_is_end => k_is); (case l_is_end => k_is)
    (case c_is_end => k_is); (case k_is_end => k_is); (case a_is_piece => k_is); (case l_is_piece => k_is); (case c_is_piece => k_is); (case k_is_piece => k_is)
    (case a_law_told => k_is); (case l_law_told => k_is); (case c_law_told => k_is); (case k_law_told => k_is); (case a_begins => k_is); (case l_begins => k_is)
    (case c_begins => k_is); (case k_begins => k_is); (case a_ends => k_is); (case l_ends => k_is); (case c_ends => k_is); (case k_ends => k_is)
    (case a_other_end => k_is); (case l_other_end => k_is); (case c_other_end => k_is); (case k_other_end => k_is); (case a_place_of => k_is); (case l_place_of => k_is)
    (case c_place_of => k_is); (case k_place_of => k_is); (case a_law => k_is); (case l_law => k_is); (case c_law => k_is); (case k_law => k_is)
    (case z_int => k_is); (case z_len => k_is); (case z_isinstance => k_is); (case z_str => k_is); (case z_bool => k_is); (case z_tuple => k_is)
    (case z_range => k_is); (case z_all => k_is); (case g_LETTERS => k_is); (case g_MOST_LETTERS => k_is); (case z_max => k_is); (case z_min => k_is)
