import PyProof.Rows.All
import Wide.All
import OpenK.AllK
import Wide.FinOn
import HandS.ForMost
import HandS.ForExc
import HandS.IsInst
import HandS.ExcIs
import HandS.TryMany
import HandS.TryOnly
import HandS.Deep
import HandS.EndBits
import HandS.Conv
import HandS.FStr
import PySem.Challenge.RW_roomshare_k11_shown
set_option Elab.async false
set_option linter.all false
set_option maxRecDepth 100000
set_option maxHeartbeats 1000000
/-! The layer of pure data over HandS. -/
namespace PD
open PySem L2

/-! ### heaps: G, the part that is known as data; H, all that is tracked -/
structure Ext (G H G' H' : Hp) : Prop where
  hh : Same H H'
  gg : Same G G'
  gh : Same G' H'
  fr : ∀ a, G a = none → H a ≠ none → G' a = none
theorem Ext.refl {G H : Hp} (h : Same G H) : Ext G H G H := ⟨Same.refl H, Same.refl G, h, fun _ q _ => q⟩
theorem some_up {H H' : Hp} (e : Same H H') {a : Addr} (h : H a ≠ none) : H' a ≠ none := by
  cases q : H a with
  | none => exact absurd q h
  | some o => rw [e a o q]; exact fun z => nomatch z
theorem Ext.trans {G H G1 H1 G2 H2 : Hp} (a : Ext G H G1 H1) (b : Ext G1 H1 G2 H2) : Ext G H G2 H2 :=
  ⟨a.hh.trans b.hh, a.gg.trans b.gg, b.gh, fun x q n => b.fr x (a.fr x q n) (some_up a.hh n)⟩
theorem same_new {H : Hp} {p : Addr} {o : HO} (h : H p = none) : Same H (upd H p o) := fun b x e => by
  rw [upd_ne (ne_of_none e h)]
  exact e
/-- a new object is laid, and it is data from now on -/
theorem Ext.new {G H : Hp} (h : Same G H) {p : Addr} {o : HO} (hp : H p = none) : Ext G H (upd G p o) (upd H p o) := by
  have gp : G p = none := h.free hp
  refine ⟨same_new hp, same_new gp, fun b x e => ?_, fun a q n => ?_⟩
  · by_cases z : b = p
    · subst z; rw [upd_same] at e ⊢; exact e
    · rw [upd_ne z] at e ⊢; exact h b x e
  · have z : a ≠ p := fun z => n (by rw [z]; exact hp)
    rw [upd_ne z]; exact q
/-- a new object is laid, its own -/
theorem Ext.own {G H : Hp} (h : Same G H) {p : Addr} {o : HO} (hp : H p = none) : Ext G H G (upd H p o) :=
  ⟨same_new hp, Same.refl G, fun b x e => same_new hp b x (h b x e), fun _ q _ => q⟩
/-- the heap grew by untold things -/
theorem Ext.grow {G H H' : Hp} (h : Same G H) (e : Same H H') : Ext G H G H' := ⟨e, Same.refl G, h.trans e, fun _ q _ => q⟩

/-! ### data -/
/-- the script, which is read alone -/
abbrev scr (ns : List Int) : PyData := .dict [(.none, .list (ns.map .int))]
mutual
inductive At (K : PySem.W.Frag) (G : Hp) : V → PyData → Prop
  | non : At K G .non .none
  | bl (b : Bool) : At K G (.bl b) (.bool b)
  | int (i : Int) : At K G (.int i) (.int i)
  | str (x : Str) : At K G (.str x) (.str x)
  | lst {a : Addr} {xs : List V} {ds : List PyData} : G a = some (.lst xs) → AtAll K G xs ds → At K G (.ref a) (.list ds)
  | tup {a : Addr} {xs : List V} {ds : List PyData} : G a = some (.tup xs) → AtAll K G xs ds → At K G (.ref a) (.tuple ds)
  | dic {a : Addr} : G a = some (.dK []) → At K G (.ref a) (.dict [])
  | scr {a : Addr} {xs : List V} {ds : List PyData} : SqL K G a xs → AtAll K G xs ds → At K G (.ref a) (.dict [(.none, .list ds)])
inductive AtAll (K : PySem.W.Frag) (G : Hp) : List V → List PyData → Prop
  | nil : AtAll K G [] []
  | cons {v : V} {vs : List V} {d : PyData} {ds : List PyData} : At K G v d → AtAll K G vs ds → AtAll K G (v :: vs) (d :: ds)
end
section
variable {K : PySem.W.Frag} {G G' H H' : Hp}
mutual
theorem At.mono (e : Same G G') : ∀ (d : PyData) (v : V), At K G v d → At K G' v d
  | .none, _, h => by cases h; exact .non
  | .bool b, _, h => by cases h; exact .bl b
  | .int i, _, h => by cases h; exact .int i
  | .str x, _, h => by cases h; exact .str x
  | .list ds, _, h => by
    cases h with
    | lst h1 h2 => exact .lst (e _ _ h1) (AtAll.mono e ds _ h2)
  | .tuple ds, _, h => by
    cases h with
    | tup h1 h2 => exact .tup (e _ _ h1) (AtAll.mono e ds _ h2)
  | .dict kvs, _, h => by
    cases h with
    | dic h1 => exact .dic (e _ _ h1)
    | scr h1 h2 => exact .scr (e.seq h1) (AtAll.mono e _ _ h2)
theorem AtAll.mono (e : Same G G') : ∀ (ds : List PyData) (vs : List V), AtAll K G vs ds → AtAll K G' vs ds
  | [], _, h => by cases h; exact .nil
  | d :: ds, _, h => by
    cases h with
    | cons h1 h2 => exact .cons (At.mono e d _ h1) (AtAll.mono e ds _ h2)
end
theorem At.up {d : PyData} {v : V} (h : At K G v d) (e : Same G G') : At K G' v d := At.mono e d v h
theorem AtAll.up {ds : List PyData} {vs : List V} (h : AtAll K G vs ds) (e : Same G G') : AtAll K G' vs ds := AtAll.mono e ds vs h
mutual
theorem At.dp : ∀ (d : PyData) (v : V), d.canLay0 = true → At K G v d → Dp K G v d
  | .none, _, _, h => by cases h; exact .non
  | .bool b, _, _, h => by cases h; exact .bl b
  | .int i, _, _, h => by cases h; exact .int i
  | .str x, _, _, h => by cases h; exact .str x
  | .list ds, _, c, h => by
    cases h with
    | lst h1 h2 => exact .lst (SqL.of h1) (AtAll.dp ds _ (by simpa [PyData.canLay0] using c) h2)
  | .tuple ds, _, c, h => by
    cases h with
    | tup h1 h2 => exact .tup (SqT.of h1) (AtAll.dp ds _ (by simpa [PyData.canLay0] using c) h2)
  | .dict kvs, _, c, _ => by simp [PyData.canLay0] at c
theorem AtAll.dp : ∀ (ds : List PyData) (vs : List V), PyData.canLayAll0 ds = true → AtAll K G vs ds → DpAll K G vs ds
  | [], _, _, h => by cases h; exact .nil
  | d :: ds, _, c, h => by
    cases h with
    | cons h1 h2 =>
      have c' : d.canLay0 = true ∧ PyData.canLayAll0 ds = true := by simpa [PyData.canLayAll0] using c
      exact .cons (At.dp d _ c'.1 h1) (AtAll.dp ds _ c'.2 h2)
end
theorem AtAll.length {vs : List V} {ds : List PyData} : AtAll K G vs ds → vs.length = ds.length := by
  induction ds generalizing vs with
  | nil => intro h; cases h; rfl
  | cons d ds ih => intro h; cases h with | cons _ h2 => simp [ih h2]
theorem AtAll.get {vs : List V} {ds : List PyData} {i : Nat} {d : PyData} : AtAll K G vs ds → ds[i]? = some d → ∃ v, vs[i]? = some v ∧ At K G v d := by
  induction ds generalizing vs i with
  | nil => intro _ e; simp at e
  | cons d0 ds ih =>
    intro h e
    cases h with
    | cons h1 h2 =>
      cases i with
      | zero => simp at e; subst e; exact ⟨_, rfl, h1⟩
      | succ i => simp at e; obtain ⟨v, q, a⟩ := ih h2 e; exact ⟨v, by simpa using q, a⟩
theorem AtAll.getV {vs : List V} {ds : List PyData} {i : Nat} {v : V} : AtAll K G vs ds → vs[i]? = some v → ∃ d, ds[i]? = some d ∧ At K G v d := by
  intro h e
  have hl := h.length
  have hi : i < ds.length := by rw [← hl]; exact (List.getElem?_eq_some_iff.mp e).1
  obtain ⟨v', q, a⟩ := h.get (List.getElem?_eq_getElem hi)
  rw [e] at q; cases q
  exact ⟨_, List.getElem?_eq_getElem hi, a⟩
theorem AtAll.app {vs ws : List V} {ds es : List PyData} : AtAll K G vs ds → AtAll K G ws es → AtAll K G (vs ++ ws) (ds ++ es) := by
  induction ds generalizing vs with
  | nil => intro h q; cases h; exact q
  | cons d ds ih => intro h q; cases h with | cons h1 h2 => exact .cons h1 (ih h2 q)
theorem AtAll.one {v : V} {d : PyData} (h : At K G v d) : AtAll K G [v] [d] := .cons h .nil
theorem AtAll.snoc {vs : List V} {ds : List PyData} {v : V} {d : PyData} (h : AtAll K G vs ds) (q : At K G v d) : AtAll K G (vs ++ [v]) (ds ++ [d]) := h.app (.one q)
theorem AtAll.drop {vs : List V} {ds : List PyData} : ∀ (n : Nat), AtAll K G vs ds → AtAll K G (vs.drop n) (ds.drop n) := by
  intro n
  induction n generalizing vs ds with
  | zero => intro h; exact h
  | succ n ih => intro h; cases h with | nil => exact .nil | cons _ h2 => exact ih h2
theorem AtAll.take {vs : List V} {ds : List PyData} : ∀ (n : Nat), AtAll K G vs ds → AtAll K G (vs.take n) (ds.take n) := by
  intro n
  induction n generalizing vs ds with
  | zero => intro h; exact .nil
  | succ n ih => intro h; cases h with | nil => exact .nil | cons h1 h2 => exact .cons h1 (ih h2)
theorem AtAll.set {vs : List V} {ds : List PyData} {v : V} {d : PyData} (q : At K G v d) : ∀ (n : Nat), AtAll K G vs ds → AtAll K G (vs.set n v) (ds.set n d) := by
  intro n
  induction n generalizing vs ds with
  | zero => intro h; cases h with | nil => exact .nil | cons h1 h2 => exact .cons q h2
  | succ n ih => intro h; cases h with | nil => exact .nil | cons h1 h2 => exact .cons h1 (ih h2)
theorem AtAll.erase {vs : List V} {ds : List PyData} : ∀ (n : Nat), AtAll K G vs ds → AtAll K G (vs.eraseIdx n) (ds.eraseIdx n) := by
  intro n
  induction n generalizing vs ds with
  | zero => intro h; cases h with | nil => exact .nil | cons h1 h2 => exact h2
  | succ n ih => intro h; cases h with | nil => exact .nil | cons h1 h2 => exact .cons h1 (ih h2)
theorem AtAll.ints {ns : List Int} {vs : List V} (h : AtAll K G vs (ns.map .int)) : vs = ns.map V.int := by
  induction ns generalizing vs with
  | nil => cases h; rfl
  | cons n ns ih => cases h with | cons h1 h2 => cases h1; rw [ih h2]; rfl
theorem AtAll.bools {bs : List Bool} {vs : List V} (h : AtAll K G vs (bs.map .bool)) : vs = bs.map V.bl := by
  induction bs generalizing vs with
  | nil => cases h; rfl
  | cons n ns ih => cases h with | cons h1 h2 => cases h1; rw [ih h2]; rfl
theorem AtAll.strs {xs : List Str} {vs : List V} (h : AtAll K G vs (xs.map .str)) : vs = xs.map V.str := by
  induction xs generalizing vs with
  | nil => cases h; rfl
  | cons n ns ih => cases h with | cons h1 h2 => cases h1; rw [ih h2]; rfl
theorem atAll_ints (ns : List Int) : AtAll K G (ns.map V.int) (ns.map .int) := by
  induction ns with
  | nil => exact .nil
  | cons n ns ih => exact .cons (.int n) ih
theorem atAll_strs (xs : List Str) : AtAll K G (xs.map V.str) (xs.map .str) := by
  induction xs with
  | nil => exact .nil
  | cons n ns ih => exact .cons (.str n) ih
theorem At.scrI {ns : List Int} {v : V} (h : At K G v (PD.scr ns)) : ∃ a, v = .ref a ∧ SqL K G a (ns.map V.int) := by
  cases h with
  | scr h1 h2 => have e := h2.ints; subst e; exact ⟨_, rfl, h1⟩
theorem At.ofScr {ns : List Int} {a : Addr} (h : SqL K G a (ns.map V.int)) : At K G (.ref a) (PD.scr ns) := .scr h (atAll_ints ns)
/-- a datum that leans on no heap -/
def scal : PyData → Bool
  | .none => true
  | .bool _ => true
  | .int _ => true
  | .str _ => true
  | _ => false
theorem At.scal {d : PyData} {v : V} (s : scal d = true) (h : At K G v d) : At K G' v d := by
  cases h with
  | non => exact .non
  | bl b => exact .bl b
  | int i => exact .int i
  | str x => exact .str x
  | _ => simp [PD.scal] at s
end

/-! ### what is known of the slots -/
inductive Sl
  /-- nothing -/
  | no
  /-- it holds this datum -/
  | da (d : PyData)
  /-- it holds a list of its own with these items -/
  | ow (ds : List PyData)
  /-- it holds a dict of its own with these keys -/
  | od (ks : List Int)
  /-- it holds that very value, which is that datum, or of which nothing is said here -/
  | fx (v : V) (o : Option PyData)
/-- it holds that very object -/
abbrev Sl.rf (a : Addr) : Sl := .fx (.ref a) none
abbrev Env := List Sl
structure Sat (K : PySem.W.Frag) (H0 G H : Hp) (σ : St) (Γ : Env) : Prop where
  len : σ.length = Γ.length
  da : ∀ (i : Nat) (d : PyData), Γ[i]? = some (.da d) → ∃ v, σ[i]? = some (some v) ∧ At K G v d
  ow : ∀ (i : Nat) (ds : List PyData), Γ[i]? = some (.ow ds) → ∃ p vs, σ[i]? = some (some (.ref p)) ∧ H p = some (.lst vs) ∧ G p = none ∧ H0 p = none ∧ AtAll K G vs ds
  ne : ∀ (i j : Nat) (di dj : List PyData) (p : Addr), Γ[i]? = some (.ow di) → Γ[j]? = some (.ow dj) → σ[i]? = some (some (.ref p)) → σ[j]? = some (some (.ref p)) → i = j
  od : ∀ (i : Nat) (ks : List Int), Γ[i]? = some (.od ks) → ∃ p kvs, σ[i]? = some (some (.ref p)) ∧ H p = some (.dK kvs) ∧ G p = none ∧ H0 p = none ∧ kvs.length ≤ ks.length ∧ ∀ k : Int, (valV kvs (Sum.inl k)).isSome = decide (k ∈ ks)
  nd : ∀ (i j : Nat) (di dj : List Int) (p : Addr), Γ[i]? = some (.od di) → Γ[j]? = some (.od dj) → σ[i]? = some (some (.ref p)) → σ[j]? = some (some (.ref p)) → i = j
  fx : ∀ (i : Nat) (v : V) (o : Option PyData), Γ[i]? = some (.fx v o) → σ[i]? = some (some v) ∧ ∀ d, o = some d → At K G v d
section
variable {K : PySem.W.Frag} {H0 G G' H H' : Hp} {σ : St} {Γ : Env}
theorem Sat.rf (s : Sat K H0 G H σ Γ) (i : Nat) (a : Addr) (q : Γ[i]? = some (.rf a)) : σ[i]? = some (some (.ref a)) := (s.fx i _ _ q).1
theorem Sat.ext (s : Sat K H0 G H σ Γ) (e : Ext G H G' H') : Sat K H0 G' H' σ Γ := by
  refine ⟨s.len, fun i d q => ?_, fun i ds q => ?_, s.ne, fun i ks q => ?_, s.nd, fun i v o q => ⟨(s.fx i v o q).1, fun d z => ((s.fx i v o q).2 d z).up e.gg⟩⟩
  · obtain ⟨v, h1, h2⟩ := s.da i d q
    exact ⟨v, h1, h2.up e.gg⟩
  · obtain ⟨p, vs, h1, h2, h3, h4, h5⟩ := s.ow i ds q
    exact ⟨p, vs, h1, e.hh _ _ h2, e.fr p h3 (by rw [h2]; exact fun z => nomatch z), h4, h5.up e.gg⟩
  · obtain ⟨p, vs, h1, h2, h3, h4, h5⟩ := s.od i ks q
    exact ⟨p, vs, h1, e.hh _ _ h2, e.fr p h3 (by rw [h2]; exact fun z => nomatch z), h4, h5⟩
/-- what a stored slot leaves of the references -/
theorem Sat.rfSet (s : Sat K H0 G H σ Γ) {i : Nat} {o : Option V} {x : Sl} (hx : ∀ v t, x ≠ .fx v t) (j : Nat) (v : V) (t : Option PyData) (q : (Γ.set i x)[j]? = some (.fx v t)) : (σ.set i o)[j]? = some (some v) ∧ ∀ d, t = some d → At K G v d := by
  by_cases z : i = j
  · subst z
    have hi : i < Γ.length := by have := (List.getElem?_eq_some_iff.mp q).1; simpa using this
    rw [List.getElem?_set_self hi] at q
    exact absurd (Option.some.inj q) (hx v t)
  · rw [List.getElem?_set_ne z] at q ⊢; exact s.fx j v t q
theorem Sat.rfSet' (s : Sat K H0 G H σ Γ) {i : Nat} {x : Sl} (hx : ∀ v t, x ≠ .fx v t) (j : Nat) (v : V) (t : Option PyData) (q : (Γ.set i x)[j]? = some (.fx v t)) : σ[j]? = some (some v) ∧ ∀ d, t = some d → At K G v d := by
  by_cases z : i = j
  · subst z
    have hi : i < Γ.length := by have := (List.getElem?_eq_some_iff.mp q).1; simpa using this
    rw [List.getElem?_set_self hi] at q
    exact absurd (Option.some.inj q) (hx v t)
  · rw [List.getElem?_set_ne z] at q; exact s.fx j v t q
/-- what a stored slot leaves of the dicts -/
theorem Sat.odSet (s : Sat K H0 G H σ Γ) {i : Nat} {o : Option V} {x : Sl} (hx : ∀ ks, x ≠ .od ks) : (∀ (j : Nat) (ks : List Int), (Γ.set i x)[j]? = some (.od ks) → ∃ p kvs, (σ.set i o)[j]? = some (some (.ref p)) ∧ H p = some (.dK kvs) ∧ G p = none ∧ H0 p = none ∧ kvs.length ≤ ks.length ∧ ∀ k : Int, (valV kvs (Sum.inl k)).isSome = decide (k ∈ ks)) ∧
    (∀ (j k : Nat) (di dj : List Int) (p : Addr), (Γ.set i x)[j]? = some (.od di) → (Γ.set i x)[k]? = some (.od dj) → (σ.set i o)[j]? = some (some (.ref p)) → (σ.set i o)[k]? = some (some (.ref p)) → j = k) := by
  have f : ∀ {j : Nat} {ks : List Int}, (Γ.set i x)[j]? = some (.od ks) → i ≠ j ∧ Γ[j]? = some (.od ks) := fun {j ks} q => by
    by_cases z : i = j
    · subst z
      have hi : i < Γ.length := by have := (List.getElem?_eq_some_iff.mp q).1; simpa using this
      rw [List.getElem?_set_self hi] at q
      exact absurd (Option.some.inj q) (hx ks)
    · rw [List.getElem?_set_ne z] at q; exact ⟨z, q⟩
  refine ⟨fun j ks q => ?_, fun j k di dj p q1 q2 q3 q4 => ?_⟩
  · obtain ⟨n, q'⟩ := f q
    rw [List.getElem?_set_ne n]
    exact s.od j ks q'
  · obtain ⟨n1, r1⟩ := f q1
    obtain ⟨n2, r2⟩ := f q2
    rw [List.getElem?_set_ne n1] at q3
    rw [List.getElem?_set_ne n2] at q4
    exact s.nd j k di dj p r1 r2 q3 q4
/-- a slot is stored -/
theorem Sat.setD (s : Sat K H0 G H σ Γ) {i : Nat} {v : V} {d : PyData} (h : At K G v d) : Sat K H0 G H (σ.set i (some v)) (Γ.set i (.da d)) := by
  have od := s.odSet (i := i) (o := some v) (x := .da d) (fun _ z => nomatch z)
  refine ⟨by simp [s.len], fun j e q => ?_, fun j ds q => ?_, fun j k dj dk p q1 q2 q3 q4 => ?_, od.1, od.2, s.rfSet (fun _ _ z => nomatch z)⟩
  · by_cases z : i = j
    · subst z
      have hi : i < Γ.length := by have := (List.getElem?_eq_some_iff.mp q).1; simpa using this
      rw [List.getElem?_set_self hi] at q
      cases q
      exact ⟨v, by rw [List.getElem?_set_self (by rw [s.len]; exact hi)], h⟩
    · rw [List.getElem?_set_ne z] at q ⊢
      exact s.da j e q
  · by_cases z : i = j
    · subst z
      have hi : i < Γ.length := by have := (List.getElem?_eq_some_iff.mp q).1; simpa using this
      rw [List.getElem?_set_self hi] at q
      cases q
    · rw [List.getElem?_set_ne z] at q ⊢
      exact s.ow j ds q
  · have n1 : i ≠ j := fun z => by
      subst z
      have hi : i < Γ.length := by have := (List.getElem?_eq_some_iff.mp q1).1; simpa using this
      rw [List.getElem?_set_self hi] at q1; cases q1
    have n2 : i ≠ k := fun z => by
      subst z
      have hi : i < Γ.length := by have := (List.getElem?_eq_some_iff.mp q2).1; simpa using this
      rw [List.getElem?_set_self hi] at q2; cases q2
    rw [List.getElem?_set_ne n1] at q1 q3
    rw [List.getElem?_set_ne n2] at q2 q4
    exact s.ne j k dj dk p q1 q2 q3 q4
/-- a slot is stored that nothing is said of -/
theorem Sat.setN (s : Sat K H0 G H σ Γ) {i : Nat} {o : Option V} : Sat K H0 G H (σ.set i o) (Γ.set i .no) := by
  have od := s.odSet (i := i) (o := o) (x := .no) (fun _ z => nomatch z)
  refine ⟨by simp [s.len], fun j e q => ?_, fun j ds q => ?_, fun j k dj dk p q1 q2 q3 q4 => ?_, od.1, od.2, s.rfSet (fun _ _ z => nomatch z)⟩
  · by_cases z : i = j
    · subst z
      have hi : i < Γ.length := by have := (List.getElem?_eq_some_iff.mp q).1; simpa using this
      rw [List.getElem?_set_self hi] at q
      cases q
    · rw [List.getElem?_set_ne z] at q ⊢
      exact s.da j e q
  · by_cases z : i = j
    · subst z
      have hi : i < Γ.length := by have := (List.getElem?_eq_some_iff.mp q).1; simpa using this
      rw [List.getElem?_set_self hi] at q
      cases q
    · rw [List.getElem?_set_ne z] at q ⊢
      exact s.ow j ds q
  · have n1 : i ≠ j := fun z => by
      subst z
      have hi : i < Γ.length := by have := (List.getElem?_eq_some_iff.mp q1).1; simpa using this
      rw [List.getElem?_set_self hi] at q1; cases q1
    have n2 : i ≠ k := fun z => by
      subst z
      have hi : i < Γ.length := by have := (List.getElem?_eq_some_iff.mp q2).1; simpa using this
      rw [List.getElem?_set_self hi] at q2; cases q2
    rw [List.getElem?_set_ne n1] at q1 q3
    rw [List.getElem?_set_ne n2] at q2 q4
    exact s.ne j k dj dk p q1 q2 q3 q4
/-- a slot comes to hold a list of its own, of which no slot knew -/
theorem Sat.setO (s : Sat K H0 G H σ Γ) {i : Nat} {p : Addr} {vs : List V} {ds : List PyData} (hp : H p = some (.lst vs)) (gp : G p = none) (h0 : H0 p = none) (ha : AtAll K G vs ds)
    (new : ∀ (j : Nat) (dj : List PyData), Γ[j]? = some (.ow dj) → σ[j]? ≠ some (some (.ref p))) : Sat K H0 G H (σ.set i (some (.ref p))) (Γ.set i (.ow ds)) := by
  have at_i : ∀ {x : Sl}, (Γ.set i (.ow ds))[i]? = some x → x = .ow ds ∧ i < Γ.length := fun {x} q => by
    have hi : i < Γ.length := by have := (List.getElem?_eq_some_iff.mp q).1; simpa using this
    rw [List.getElem?_set_self hi] at q
    exact ⟨(Option.some.inj q).symm, hi⟩
  have od := s.odSet (i := i) (o := some (.ref p)) (x := .ow ds) (fun _ z => nomatch z)
  refine ⟨by simp [s.len], fun j e q => ?_, fun j es q => ?_, fun j k dj dk b q1 q2 q3 q4 => ?_, od.1, od.2, s.rfSet (fun _ _ z => nomatch z)⟩
  · by_cases z : i = j
    · subst z; exact nomatch (at_i q).1
    · rw [List.getElem?_set_ne z] at q ⊢
      exact s.da j e q
  · by_cases z : i = j
    · subst z
      obtain ⟨e1, hi⟩ := at_i q
      cases e1
      exact ⟨p, vs, by rw [List.getElem?_set_self (by rw [s.len]; exact hi)], hp, gp, h0, ha⟩
    · rw [List.getElem?_set_ne z] at q ⊢
      exact s.ow j es q
  · by_cases z1 : i = j
    · by_cases z2 : i = k
      · rw [← z1, ← z2]
      · exfalso
        subst z1
        obtain ⟨_, hi⟩ := at_i q1
        rw [List.getElem?_set_self (by rw [s.len]; exact hi)] at q3
        cases q3
        rw [List.getElem?_set_ne z2] at q2 q4
        exact new k dk q2 q4
    · by_cases z2 : i = k
      · exfalso
        subst z2
        obtain ⟨_, hi⟩ := at_i q2
        rw [List.getElem?_set_self (by rw [s.len]; exact hi)] at q4
        cases q4
        rw [List.getElem?_set_ne z1] at q1 q3
        exact new j dj q1 q3
      · rw [List.getElem?_set_ne z1] at q1 q3
        rw [List.getElem?_set_ne z2] at q2 q4
        exact s.ne j k dj dk b q1 q2 q3 q4
/-- the list of slot i is written -/
theorem Sat.write (s : Sat K H0 G H σ Γ) {i : Nat} {p : Addr} {vs : List V} {ds es : List PyData} (hi : Γ[i]? = some (.ow ds)) (hs : σ[i]? = some (some (.ref p))) (ha : AtAll K G vs es) :
    Sat K H0 G (upd H p (.lst vs)) σ (Γ.set i (.ow es)) := by
  have hil : i < Γ.length := (List.getElem?_eq_some_iff.mp hi).1
  obtain ⟨p', vs', h1, h2, h3, h4, h5⟩ := s.ow i ds hi
  rw [hs] at h1; cases h1
  have fo : ∀ {j : Nat} {ks : List Int}, (Γ.set i (.ow es))[j]? = some (.od ks) → Γ[j]? = some (.od ks) := fun {j ks} q => by
    by_cases z : i = j
    · subst z; rw [List.getElem?_set_self hil] at q; cases q
    · rwa [List.getElem?_set_ne z] at q
  refine ⟨by simp [s.len], fun j e q => ?_, fun j e q => ?_, fun j k dj dk b q1 q2 q3 q4 => ?_, fun j ks q => ?_, fun j k di dj b q1 q2 => s.nd j k di dj b (fo q1) (fo q2), s.rfSet' (fun _ _ z => nomatch z)⟩
  · by_cases z : i = j
    · subst z; rw [List.getElem?_set_self hil] at q; cases q
    · rw [List.getElem?_set_ne z] at q
      exact s.da j e q
  · by_cases z : i = j
    · subst z; rw [List.getElem?_set_self hil] at q; cases q
      exact ⟨p, vs, hs, upd_same, h3, h4, ha⟩
    · rw [List.getElem?_set_ne z] at q
      obtain ⟨b, ws, k1, k2, k3, k4, k5⟩ := s.ow j e q
      have nb : b ≠ p := fun y => by subst y; exact z (s.ne i j ds e b hi q hs k1)
      exact ⟨b, ws, k1, by rw [upd_ne nb]; exact k2, k3, k4, k5⟩
  · have f : ∀ {m : Nat} {dm : List PyData}, (Γ.set i (.ow es))[m]? = some (.ow dm) → ∃ dm', Γ[m]? = some (.ow dm') := fun {m dm} q => by
      by_cases z : i = m
      · subst z; exact ⟨ds, hi⟩
      · rw [List.getElem?_set_ne z] at q; exact ⟨dm, q⟩
    obtain ⟨d1, f1⟩ := f q1
    obtain ⟨d2, f2⟩ := f q2
    exact s.ne j k d1 d2 b f1 f2 q3 q4
  · obtain ⟨b, kvs, k1, k2, k3⟩ := s.od j ks (fo q)
    have nb : b ≠ p := fun y => by subst y; rw [h2] at k2; cases k2
    exact ⟨b, kvs, k1, by rw [upd_ne nb]; exact k2, k3⟩
/-- a slot comes to hold that very value -/
theorem Sat.setF (s : Sat K H0 G H σ Γ) {i : Nat} {v : V} {o : Option PyData} (ho : ∀ d, o = some d → At K G v d) : Sat K H0 G H (σ.set i (some v)) (Γ.set i (.fx v o)) := by
  have t := s.setN (i := i) (o := some v)
  have f : ∀ {j : Nat} {x : Sl}, (Γ.set i (.fx v o))[j]? = some x → (∀ b c, x ≠ .fx b c) → (Γ.set i .no)[j]? = some x := fun {j x} q n => by
    by_cases z : i = j
    · subst z
      have hi : i < Γ.length := by have := (List.getElem?_eq_some_iff.mp q).1; simpa using this
      rw [List.getElem?_set_self hi] at q
      exact absurd (Option.some.inj q).symm (n v o)
    · rw [List.getElem?_set_ne z] at q ⊢; exact q
  refine ⟨by simp [s.len], fun j d q => t.da j d (f q (fun _ _ z => nomatch z)), fun j ds q => t.ow j ds (f q (fun _ _ z => nomatch z)), fun j k dj dk p q1 q2 => t.ne j k dj dk p (f q1 (fun _ _ z => nomatch z)) (f q2 (fun _ _ z => nomatch z)),
    fun j ks q => t.od j ks (f q (fun _ _ z => nomatch z)), fun j k dj dk p q1 q2 => t.nd j k dj dk p (f q1 (fun _ _ z => nomatch z)) (f q2 (fun _ _ z => nomatch z)), fun j b c q => ?_⟩
  by_cases z : i = j
  · subst z
    have hi : i < Γ.length := by have := (List.getElem?_eq_some_iff.mp q).1; simpa using this
    rw [List.getElem?_set_self hi] at q
    cases q
    rw [List.getElem?_set_self (by rw [s.len]; exact hi)]
    exact ⟨rfl, ho⟩
  · rw [List.getElem?_set_ne z] at q ⊢; exact s.fx j b c q
theorem Sat.setR (s : Sat K H0 G H σ Γ) {i : Nat} {a : Addr} : Sat K H0 G H (σ.set i (some (.ref a))) (Γ.set i (.rf a)) := s.setF fun _ z => nomatch z
/-- a slot comes to hold an empty dict of its own -/
theorem Sat.setK (s : Sat K H0 G H σ Γ) {i : Nat} {p : Addr} (hp : H p = some (.dK [])) (gp : G p = none) (h0 : H0 p = none)
    (new : ∀ (j : Nat) (dj : List Int), Γ[j]? = some (.od dj) → σ[j]? ≠ some (some (.ref p))) : Sat K H0 G H (σ.set i (some (.ref p))) (Γ.set i (.od [])) := by
  have at_i : ∀ {x : Sl}, (Γ.set i (.od []))[i]? = some x → x = .od [] ∧ i < Γ.length := fun {x} q => by
    have hi : i < Γ.length := by have := (List.getElem?_eq_some_iff.mp q).1; simpa using this
    rw [List.getElem?_set_self hi] at q
    exact ⟨(Option.some.inj q).symm, hi⟩
  have off : ∀ {j : Nat} {x : Sl}, (Γ.set i (.od []))[j]? = some x → (∀ ks, x ≠ .od ks) → i ≠ j := fun {j x} q n z => by
    subst z; exact n _ (at_i q).1
  refine ⟨by simp [s.len], fun j e q => ?_, fun j es q => ?_, fun j k dj dk b q1 q2 q3 q4 => ?_, fun j ks q => ?_, fun j k dj dk b q1 q2 q3 q4 => ?_, s.rfSet (fun _ _ z => nomatch z)⟩
  · have z := off q (fun _ z => nomatch z)
    rw [List.getElem?_set_ne z] at q ⊢
    exact s.da j e q
  · have z := off q (fun _ z => nomatch z)
    rw [List.getElem?_set_ne z] at q ⊢
    exact s.ow j es q
  · have z1 := off q1 (fun _ z => nomatch z)
    have z2 := off q2 (fun _ z => nomatch z)
    rw [List.getElem?_set_ne z1] at q1 q3
    rw [List.getElem?_set_ne z2] at q2 q4
    exact s.ne j k dj dk b q1 q2 q3 q4
  · by_cases z : i = j
    · subst z
      obtain ⟨e1, hi⟩ := at_i q
      cases e1
      exact ⟨p, [], by rw [List.getElem?_set_self (by rw [s.len]; exact hi)], hp, gp, h0, Nat.le_refl _, fun k => by simp [valV]⟩
    · rw [List.getElem?_set_ne z] at q ⊢
      exact s.od j ks q
  · by_cases z1 : i = j
    · by_cases z2 : i = k
      · rw [← z1, ← z2]
      · exfalso
        subst z1
        obtain ⟨_, hi⟩ := at_i q1
        rw [List.getElem?_set_self (by rw [s.len]; exact hi)] at q3
        cases q3
        rw [List.getElem?_set_ne z2] at q2 q4
        exact new k dk q2 q4
    · by_cases z2 : i = k
      · exfalso
        subst z2
        obtain ⟨_, hi⟩ := at_i q2
        rw [List.getElem?_set_self (by rw [s.len]; exact hi)] at q4
        cases q4
        rw [List.getElem?_set_ne z1] at q1 q3
        exact new j dj q1 q3
      · rw [List.getElem?_set_ne z1] at q1 q3
        rw [List.getElem?_set_ne z2] at q2 q4
        exact s.nd j k dj dk b q1 q2 q3 q4
/-- the dict of slot i gets a key -/
theorem Sat.put (s : Sat K H0 G H σ Γ) {i : Nat} {p : Addr} {kvs : List (Key × V)} {ks : List Int} {k : Int} {v : V} (hi : Γ[i]? = some (.od ks)) (hs : σ[i]? = some (some (.ref p))) (hp : H p = some (.dK kvs)) (nk : k ∉ ks) :
    Sat K H0 G (upd H p (.dK (putK kvs (Sum.inl k) v))) σ (Γ.set i (.od (ks ++ [k]))) := by
  have hil : i < Γ.length := (List.getElem?_eq_some_iff.mp hi).1
  obtain ⟨p', kvs', h1, h2, h3, h4, h5, h6⟩ := s.od i ks hi
  rw [hs] at h1; cases h1
  rw [hp] at h2; cases h2
  have off : ∀ {j : Nat} {x : Sl}, (Γ.set i (.od (ks ++ [k])))[j]? = some x → (∀ ks, x ≠ .od ks) → Γ[j]? = some x := fun {j x} q n => by
    by_cases z : i = j
    · subst z; rw [List.getElem?_set_self hil] at q; exact absurd (Option.some.inj q).symm (n _)
    · rwa [List.getElem?_set_ne z] at q
  have fo : ∀ {j : Nat} {es : List Int}, (Γ.set i (.od (ks ++ [k])))[j]? = some (.od es) → ∃ es', Γ[j]? = some (.od es') := fun {j es} q => by
    by_cases z : i = j
    · subst z; exact ⟨ks, hi⟩
    · rw [List.getElem?_set_ne z] at q; exact ⟨es, q⟩
  have hv : valV kvs (Sum.inl k) = none := by
    have := h6 k
    rw [decide_eq_false nk] at this
    exact Option.not_isSome_iff_eq_none.mp (by rw [this]; exact Bool.false_ne_true)
  refine ⟨by simp [s.len], fun j e q => ?_, fun j e q => ?_, fun j m dj dk b q1 q2 => s.ne j m dj dk b (off q1 (fun _ z => nomatch z)) (off q2 (fun _ z => nomatch z)), fun j es q => ?_, fun j m di dj b q1 q2 q3 q4 => ?_, s.rfSet' (fun _ _ z => nomatch z)⟩
  · exact s.da j e (off q (fun _ z => nomatch z))
  · obtain ⟨b, ws, k1, k2, k3⟩ := s.ow j e (off q (fun _ z => nomatch z))
    have nb : b ≠ p := fun y => by subst y; rw [hp] at k2; cases k2
    exact ⟨b, ws, k1, by rw [upd_ne nb]; exact k2, k3⟩
  · by_cases z : i = j
    · subst z; rw [List.getElem?_set_self hil] at q; cases q
      refine ⟨p, _, hs, upd_same, h3, h4, ?_, fun m => ?_⟩
      · rw [putK_new v hv, List.length_append, List.length_append]; simp; exact h5
      · rw [valV_put]
        by_cases y : (Sum.inl m : Key) = Sum.inl k
        · rw [if_pos y]; cases y; simp
        · rw [if_neg y, h6 m]
          have y' : ¬ m = k := fun e => y (by rw [e])
          simp [y']
    · rw [List.getElem?_set_ne z] at q
      obtain ⟨b, ws, k1, k2, k3⟩ := s.od j es q
      have nb : b ≠ p := fun y => by subst y; exact z (s.nd i j ks es b hi q hs k1)
      exact ⟨b, ws, k1, by rw [upd_ne nb]; exact k2, k3⟩
  · obtain ⟨e1, r1⟩ := fo q1
    obtain ⟨e2, r2⟩ := fo q2
    exact s.nd j m e1 e2 b r1 r2 q3 q4
/-- forgetting -/
inductive Wk : Sl → Sl → Prop
  | no (s : Sl) : Wk s .no
  | same (s : Sl) : Wk s s
theorem Sat.weak {Γ' : Env} (s : Sat K H0 G H σ Γ) (hl : Γ'.length = Γ.length) (w : ∀ (i : Nat) (x y : Sl), Γ[i]? = some x → Γ'[i]? = some y → Wk x y) : Sat K H0 G H σ Γ' := by
  have up : ∀ {i : Nat} {y : Sl}, Γ'[i]? = some y → y ≠ .no → Γ[i]? = some y := fun {i y} q n => by
    have hi : i < Γ.length := by rw [← hl]; exact (List.getElem?_eq_some_iff.mp q).1
    have e := List.getElem?_eq_getElem hi
    have r := w i _ y e q
    cases r with
    | no => exact absurd rfl n
    | same => exact e
  exact ⟨by rw [hl]; exact s.len, fun i d q => s.da i d (up q (fun z => nomatch z)), fun i ds q => s.ow i ds (up q (fun z => nomatch z)), fun i j di dj p q1 q2 => s.ne i j di dj p (up q1 (fun z => nomatch z)) (up q2 (fun z => nomatch z)),
    fun i ks q => s.od i ks (up q (fun z => nomatch z)), fun i j di dj p q1 q2 => s.nd i j di dj p (up q1 (fun z => nomatch z)) (up q2 (fun z => nomatch z)), fun i v o q => s.fx i v o (up q (fun z => nomatch z))⟩
end
end PD

set_option Elab.async false
set_option linter.all false
set_option maxRecDepth 100000
set_option maxHeartbeats 1000000
/-! Expressions over data. -/
namespace PD
open PySem L2
section
variable (K : PySem.W.Frag)
def EvD (te : TE) (Γ : Env) (d : PyData) : Prop := ∀ (H0 G H : Hp) (σ : St), Sat K H0 G H σ Γ → Same G H → ∀ Q : VK, (∀ v G' H', Ext G H G' H' → At K G' v d → Q v H') → te σ H Q
/-- a new list -/
def EvO (te : TE) (Γ : Env) (ds : List PyData) : Prop := ∀ (H0 G H : Hp) (σ : St), Sat K H0 G H σ Γ → Same G H → ∀ Q : VK,
  (∀ p vs G' H', Ext G H G' H' → H p = none → G' p = none → H' p = some (.lst vs) → AtAll K G' vs ds → Q (.ref p) H') → te σ H Q
def EvT (tt : TT) (Γ : Env) (b : Bool) : Prop := ∀ (H0 G H : Hp) (σ : St), Sat K H0 G H σ Γ → Same G H → ∀ Q : Bool → Hp → Prop, (∀ G' H', Ext G H G' H' → Q b H') → tt σ H Q
def EvA (ta : TA) (Γ : Env) (ds : List PyData) : Prop := ∀ (H0 G H : Hp) (σ : St), Sat K H0 G H σ Γ → Same G H → ∀ Q : List V → Hp → Prop, (∀ vs G' H', Ext G H G' H' → AtAll K G' vs ds → Q vs H') → ta σ H Q
def EvP (to : TO) (Γ : Env) (o : Option Int) : Prop := ∀ (H0 G H : Hp) (σ : St), Sat K H0 G H σ Γ → Same G H → ∀ Q : Option Int → Hp → Prop, (∀ G' H', Ext G H G' H' → Q o H') → to σ H Q
/-- it raises an own error of the class at C -/
def EvX (E : XK) (te : TE) (Γ : Env) (C : Addr) : Prop := ∀ (H0 G H : Hp) (σ : St), Sat K H0 G H σ Γ → Same G H → (∀ H', Same H H' → E (.ref C) none H') → ∀ Q : VK, te σ H Q
def ExA (E : XK) (ta : TA) (Γ : Env) (C : Addr) : Prop := ∀ (H0 G H : Hp) (σ : St), Sat K H0 G H σ Γ → Same G H → (∀ H', Same H H' → E (.ref C) none H') → ∀ Q : List V → Hp → Prop, ta σ H Q
def ExT (E : XK) (tt : TT) (Γ : Env) (C : Addr) : Prop := ∀ (H0 G H : Hp) (σ : St), Sat K H0 G H σ Γ → Same G H → (∀ H', Same H H' → E (.ref C) none H') → ∀ Q : Bool → Hp → Prop, tt σ H Q
end
section
variable {K : PySem.W.Frag} {Γ : Env} {ta tb tc te : TE} {t u : TT}
theorem EvO.toD {ds : List PyData} (h : EvO K te Γ ds) : EvD K te Γ (.list ds) := fun H0 G H σ s gh Q q => h H0 G H σ s gh Q fun p vs G' H' e hp gp hp' ha => by
  have e2 : Ext G H (upd G' p (.lst vs)) H' := by
    refine ⟨e.hh, e.gg.trans (same_new gp), fun b x z => ?_, fun a z n => ?_⟩
    · by_cases y : b = p
      · subst y; rw [upd_same] at z; cases z; exact hp'
      · rw [upd_ne y] at z; exact e.gh b x z
    · have y : a ≠ p := fun y => n (by rw [y]; exact hp)
      rw [upd_ne y]; exact e.fr a z n
  exact q _ _ _ e2 (.lst upd_same (ha.up (same_new gp)))
theorem evd_eq {d e : PyData} (h : EvD K te Γ d) (z : d = e) : EvD K te Γ e := z ▸ h
theorem evo_eq {d e : List PyData} (h : EvO K te Γ d) (z : d = e) : EvO K te Γ e := z ▸ h
theorem evt_eq {a b : Bool} (h : EvT K t Γ a) (z : a = b) : EvT K t Γ b := z ▸ h

/-! ### names, constants -/
theorem ev_var {i : Nat} {d : PyData} (h : Γ[i]? = some (.da d)) : EvD K (tVar i) Γ d := fun H0 G H σ s gh Q q => by
  obtain ⟨v, h1, h2⟩ := s.da i d h
  exact ⟨v, h1, q v G H (Ext.refl gh) h2⟩
theorem ev_int {i : Int} : EvD K (tC (.int i)) Γ (.int i) := fun H0 G H σ s gh Q q => q _ G H (Ext.refl gh) (.int i)
theorem ev_bl {b : Bool} : EvD K (tC (.bl b)) Γ (.bool b) := fun H0 G H σ s gh Q q => q _ G H (Ext.refl gh) (.bl b)
theorem ev_non : EvD K (tC .non) Γ .none := fun H0 G H σ s gh Q q => q _ G H (Ext.refl gh) .non
theorem ev_str {x : Str} : EvD K (tC (.str x)) Γ (.str x) := fun H0 G H σ s gh Q q => q _ G H (Ext.refl gh) (.str x)

/-! ### two operands -/
/-- what a two-place operation gives on data -/
def RvD (K : PySem.W.Frag) (r : R2) (d e f : PyData) : Prop := ∀ (G H : Hp) (x y : V), Same G H → At K G x d → At K G y e → ∀ Q : VK, (∀ v G' H', Ext G H G' H' → At K G' v f → Q v H') → r x y H Q
theorem ev_op {r : R2} {d e f : PyData} (ha : EvD K ta Γ d) (hb : EvD K tb Γ e) (hr : RvD K r d e f) : EvD K (tOp r ta tb) Γ f := fun H0 G H σ s gh Q q =>
  ha H0 G H σ s gh _ fun x G1 H1 e1 a1 => hb H0 G1 H1 σ (s.ext e1) e1.gh _ fun y G2 H2 e2 a2 => hr G2 H2 x y e2.gh (a1.up e2.gg) a2 Q fun v G3 H3 e3 a3 => q v G3 H3 ((e1.trans e2).trans e3) a3
theorem RvD.inl {r r' : R2} {d e f : PyData} (h : RvD K r d e f) : RvD K (fun x y H Q => r x y H Q ∨ r' x y H Q) d e f := fun G H x y gh a b Q q => .inl (h G H x y gh a b Q q)
theorem RvD.inr {r r' : R2} {d e f : PyData} (h : RvD K r' d e f) : RvD K (fun x y H Q => r x y H Q ∨ r' x y H Q) d e f := fun G H x y gh a b Q q => .inr (h G H x y gh a b Q q)
theorem rv_I0i {g : Int → Int → Int} {i j : Int} : RvD K (rI0 fun i j => .int (g i j)) (.int i) (.int j) (.int (g i j)) := fun G H x y gh a b Q q => by
  cases a; cases b
  exact ⟨i, j, rfl, rfl, q _ G H (Ext.refl gh) (.int _)⟩
theorem rv_I0b {g : Int → Int → Bool} {i j : Int} : RvD K (rI0 fun i j => .bl (g i j)) (.int i) (.int j) (.bool (g i j)) := fun G H x y gh a b Q q => by
  cases a; cases b
  exact ⟨i, j, rfl, rfl, q _ G H (Ext.refl gh) (.bl _)⟩
theorem rv_Ii {C : Int → Int → Prop} {g : Int → Int → Int} {i j : Int} (hc : C i j) : RvD K (rI C fun i j => .int (g i j)) (.int i) (.int j) (.int (g i j)) := fun G H x y gh a b Q q => by
  cases a; cases b
  exact ⟨i, j, rfl, rfl, hc, q _ G H (Ext.refl gh) (.int _)⟩
abbrev rAddI : R2 := rI0 fun i j => .int (i + j)
abbrev rAddS : R2 := fun x y H Q => ∃ i j, x = .str i ∧ y = .str j ∧ i.length + j.length ≤ sizeLine ∧ Q (.str (i ++ j)) H
/-- a + b, whatever they are -/
abbrev rAdd3 : R2 := fun x y H Q => rAddI x y H Q ∨ (fun x y H Q => rAddS x y H Q ∨ rCat x y H Q) x y H Q
abbrev rSubI : R2 := rI0 fun i j => .int (i - j)
abbrev rMulI : R2 := rI CMul fun i j => .int (i * j)
abbrev rMul2 : R2 := fun x y H Q => rMulI x y H Q ∨ rRep x y H Q
abbrev rModI : R2 := rI (fun _ j => 0 < j) fun i j => .int (i % j)
abbrev rDivI : R2 := rI CDiv fun i j => .int (i / j)
abbrev rPowI : R2 := rI CPow fun i j => .int (i ^ j.toNat)
theorem ev_add {i j : Int} (ha : EvD K ta Γ (.int i)) (hb : EvD K tb Γ (.int j)) : EvD K (tOp rAdd3 ta tb) Γ (.int (i + j)) := ev_op ha hb rv_I0i.inl
theorem ev_sub {i j : Int} (ha : EvD K ta Γ (.int i)) (hb : EvD K tb Γ (.int j)) : EvD K (tOp rSubI ta tb) Γ (.int (i - j)) := ev_op ha hb rv_I0i
theorem ev_mul {i j : Int} (ha : EvD K ta Γ (.int i)) (hb : EvD K tb Γ (.int j)) (hc : CMul i j) : EvD K (tOp rMul2 ta tb) Γ (.int (i * j)) := ev_op ha hb (rv_Ii hc).inl
theorem ev_mod {i j : Int} (ha : EvD K ta Γ (.int i)) (hb : EvD K tb Γ (.int j)) (hc : 0 < j) : EvD K (tOp rModI ta tb) Γ (.int (i % j)) := ev_op ha hb (rv_Ii hc)
theorem ev_div {i j : Int} (ha : EvD K ta Γ (.int i)) (hb : EvD K tb Γ (.int j)) (hc : CDiv i j) : EvD K (tOp rDivI ta tb) Γ (.int (i / j)) := ev_op ha hb (rv_Ii hc)
theorem ev_pow {i j : Int} (ha : EvD K ta Γ (.int i)) (hb : EvD K tb Γ (.int j)) (hc : CPow i j) : EvD K (tOp rPowI ta tb) Γ (.int (i ^ j.toNat)) := ev_op ha hb (rv_Ii hc)
theorem ev_addS {x y : Str} (ha : EvD K ta Γ (.str x)) (hb : EvD K tb Γ (.str y)) (hz : x.length + y.length ≤ sizeLine) : EvD K (tOp rAdd3 ta tb) Γ (.str (x ++ y)) :=
  ev_op ha hb (RvD.inr (RvD.inl fun G H v w gh a b Q q => by
    cases a; cases b
    exact ⟨x, y, rfl, rfl, hz, q _ G H (Ext.refl gh) (.str _)⟩))
/-- a two-place operation that gives a new list -/
def RvO (K : PySem.W.Frag) (r : R2) (d e : PyData) (fs : List PyData) : Prop := ∀ (G H : Hp) (x y : V), Same G H → At K G x d → At K G y e → ∀ Q : VK,
  (∀ p vs G' H', Ext G H G' H' → H p = none → G' p = none → H' p = some (.lst vs) → AtAll K G' vs fs → Q (.ref p) H') → r x y H Q
theorem ev_opO {r : R2} {d e : PyData} {fs : List PyData} (ha : EvD K ta Γ d) (hb : EvD K tb Γ e) (hr : RvO K r d e fs) : EvO K (tOp r ta tb) Γ fs := fun H0 G H σ s gh Q q =>
  ha H0 G H σ s gh _ fun x G1 H1 e1 a1 => hb H0 G1 H1 σ (s.ext e1) e1.gh _ fun y G2 H2 e2 a2 => hr G2 H2 x y e2.gh (a1.up e2.gg) a2 Q fun p vs G3 H3 e3 hp gp h3 a3 =>
    q p vs G3 H3 ((e1.trans e2).trans e3) ((e1.trans e2).hh.free hp) gp h3 a3
theorem ev_cat {ds es : List PyData} (ha : EvD K ta Γ (.list ds)) (hb : EvD K tb Γ (.list es)) (hz : ds.length + es.length ≤ 100000) : EvO K (tOp rAdd3 ta tb) Γ (ds ++ es) :=
  ev_opO ha hb fun G H x y gh a b Q q => by
    cases a with
    | lst a1 a2 =>
      cases b with
      | lst b1 b2 =>
        refine .inr (.inr ⟨_, _, _, _, rfl, rfl, gh _ _ a1, gh _ _ b1, ?_, fun p hp => ?_⟩)
        · rw [a2.length, b2.length]; exact Nat.le_trans hz (by decide)
        · exact q p _ G _ (Ext.own gh hp) hp (gh.free hp) upd_same (a2.app b2)
theorem rep_flat {α : Type} (x : α) : ∀ n : Nat, (List.replicate n [x]).flatten = List.replicate n x
  | 0 => rfl
  | n + 1 => by rw [List.replicate_succ, List.flatten_cons, rep_flat x n]; rfl
theorem atAll_rep {G : Hp} {v : V} {d : PyData} (hv : At K G v d) : ∀ m : Nat, AtAll K G (List.replicate m v) (List.replicate m d)
  | 0 => .nil
  | m + 1 => by rw [List.replicate_succ, List.replicate_succ]; exact .cons hv (atAll_rep hv m)
/-- [e] * n -/
theorem ev_rep {d : PyData} {n : Int} (ha : EvD K ta Γ (.list [d])) (hb : EvD K tb Γ (.int n)) (h0 : 0 ≤ n ∧ n ≤ 100000) : EvO K (tOp rMul2 ta tb) Γ (List.replicate n.toNat d) :=
  ev_opO ha hb fun G H x y gh a b Q q => by
    cases b
    cases a with
    | lst a1 a2 =>
      rename_i l xs
      have hl := a2.length
      have e1 : ∃ v, xs = [v] ∧ At K G v d := by
        cases a2 with
        | cons h1 h2 => cases h2; exact ⟨_, rfl, h1⟩
      obtain ⟨v, rfl, hv⟩ := e1
      refine .inr ⟨l, n, [v], rfl, rfl, gh _ _ a1, by omega, by omega, ?_, fun p hp => ?_⟩
      · show 1 * n.toNat ≤ sizeLine
        have : (100000 : Nat) ≤ sizeLine := by decide
        omega
      · refine q p _ G _ (Ext.own gh hp) hp (gh.free hp) upd_same ?_
        rw [rep_flat]
        exact atAll_rep hv _

/-! ### indexing -/
theorem atI_at {K : PySem.W.Frag} {G : Hp} {vs : List V} {ds : List PyData} {i : Int} {d : PyData} (ha : AtAll K G vs ds) (h : atI ds i = some d) : ∃ v, atI vs i = some v ∧ At K G v d := by
  unfold atI at h ⊢
  rw [ha.length]
  cases e : ixN ds.length i with
  | none => rw [e] at h; cases h
  | some j =>
    rw [e] at h
    exact ha.get h
theorem atI_of {α : Type} {xs : List α} {i : Int} {x : α} (h0 : 0 ≤ i) (h : xs[i.toNat]? = some x) : atI xs i = some x := by
  have e : ((i.toNat : Nat) : Int) = i := Int.toNat_of_nonneg h0
  rw [← e]
  exact atI_nat h
theorem ev_ixL {ds : List PyData} {i : Int} {d : PyData} (ha : EvD K ta Γ (.list ds)) (hb : EvD K tb Γ (.int i)) (h : atI ds i = some d) : EvD K (tOp (rIx K) ta tb) Γ d :=
  ev_op ha hb fun G H x y gh a b Q q => by
    cases b
    cases a with
    | lst a1 a2 =>
      obtain ⟨v, h1, h2⟩ := atI_at a2 h
      exact .inl ⟨_, _, i, v, rfl, rfl, SqL.of (gh _ _ a1), h1, q v G H (Ext.refl gh) h2⟩
theorem ev_ixT {ds : List PyData} {i : Int} {d : PyData} (ha : EvD K ta Γ (.tuple ds)) (hb : EvD K tb Γ (.int i)) (h : atI ds i = some d) : EvD K (tOp (rIx K) ta tb) Γ d :=
  ev_op ha hb fun G H x y gh a b Q q => by
    cases b
    cases a with
    | tup a1 a2 =>
      obtain ⟨v, h1, h2⟩ := atI_at a2 h
      exact .inr (.inl ⟨_, _, i, v, rfl, rfl, SqT.of (gh _ _ a1), h1, q v G H (Ext.refl gh) h2⟩)
theorem ev_ixS {z : Str} {i : Int} {c : Nat} (ha : EvD K ta Γ (.str z)) (hb : EvD K tb Γ (.int i)) (hz : z.length ≤ sizeLine) (h : atI z.cps.toList i = some c) : EvD K (tOp (rIx K) ta tb) Γ (.str ⟨#[c]⟩) :=
  ev_op ha hb fun G H x y gh a b Q q => by
    cases b
    cases a
    exact .inr (.inr ⟨z, i, c, rfl, rfl, hz, h, q _ G H (Ext.refl gh) (.str _)⟩)
theorem ev_ixScr {ns : List Int} {i k : Int} (ha : EvD K ta Γ (scr ns)) (hb : EvD K tb Γ (.int i)) (h : atI ns i = some k) : EvD K (tOp (rIx K) ta tb) Γ (.int k) :=
  ev_op ha hb fun G H x y gh a b Q q => by
    cases b
    obtain ⟨z, rfl, a1⟩ := a.scrI
    · refine .inl ⟨_, _, i, .int k, rfl, rfl, gh.seq a1, ?_, q _ G H (Ext.refl gh) (.int _)⟩
      unfold atI at h ⊢
      rw [List.length_map]
      cases e : ixN ns.length i with
      | none => rw [e] at h; cases h
      | some j =>
        rw [e] at h
        show (ns.map V.int)[j]? = _
        have h' : ns[j]? = some k := h
        rw [List.getElem?_map, h']; rfl
/-- over typed lists -/
theorem atI_map {α β : Type} {f : α → β} {xs : List α} {i : Int} (h0 : 0 ≤ i) (h1 : i < xs.length) (d : α) : atI (xs.map f) i = some (f (xs.getD i.toNat d)) := by
  refine atI_of h0 ?_
  have hi : i.toNat < xs.length := by omega
  rw [List.getElem?_map, List.getElem?_eq_getElem hi, List.getD_eq_getElem?_getD, List.getElem?_eq_getElem hi]
  rfl

/-! ### comparisons -/
abbrev rEq2 (K : PySem.W.Frag) : R2 := fun x y H Q => rEq x y H Q ∨ rEqD K x y H Q
abbrev rNe2 (K : PySem.W.Frag) : R2 := fun x y H Q => rNe x y H Q ∨ rNeD K x y H Q
abbrev rLtI : R2 := rI0 fun i j => .bl (decide (i < j))
abbrev rLeI : R2 := rI0 fun i j => .bl (decide (i ≤ j))
abbrev rGtI : R2 := rI0 fun i j => .bl (decide (j < i))
abbrev rGeI : R2 := rI0 fun i j => .bl (decide (j ≤ i))
theorem ev_lt {i j : Int} (ha : EvD K ta Γ (.int i)) (hb : EvD K tb Γ (.int j)) : EvD K (tOp rLtI ta tb) Γ (.bool (decide (i < j))) := ev_op ha hb rv_I0b
theorem ev_le {i j : Int} (ha : EvD K ta Γ (.int i)) (hb : EvD K tb Γ (.int j)) : EvD K (tOp rLeI ta tb) Γ (.bool (decide (i ≤ j))) := ev_op ha hb rv_I0b
theorem ev_gt {i j : Int} (ha : EvD K ta Γ (.int i)) (hb : EvD K tb Γ (.int j)) : EvD K (tOp rGtI ta tb) Γ (.bool (decide (j < i))) := ev_op ha hb rv_I0b
theorem ev_ge {i j : Int} (ha : EvD K ta Γ (.int i)) (hb : EvD K tb Γ (.int j)) : EvD K (tOp rGeI ta tb) Γ (.bool (decide (j ≤ i))) := ev_op ha hb rv_I0b
theorem rv_eqI {i j : Int} : RvD K (rEq2 K) (.int i) (.int j) (.bool (decide (i = j))) := fun G H x y gh a b Q q => by
  cases a; cases b
  refine .inl ⟨rfl, ?_⟩
  have e : decide (V.int i = V.int j) = decide (i = j) := by
    by_cases z : i = j
    · subst z; simp
    · rw [decide_eq_false z, decide_eq_false (fun y => z (V.int.inj y))]
  rw [e]
  exact q _ G H (Ext.refl gh) (.bl _)
theorem rv_neI {i j : Int} : RvD K (rNe2 K) (.int i) (.int j) (.bool (!decide (i = j))) := fun G H x y gh a b Q q => by
  cases a; cases b
  refine .inl ⟨rfl, ?_⟩
  have e : decide (V.int i = V.int j) = decide (i = j) := by
    by_cases z : i = j
    · subst z; simp
    · rw [decide_eq_false z, decide_eq_false (fun y => z (V.int.inj y))]
  rw [e]
  exact q _ G H (Ext.refl gh) (.bl _)
theorem rv_eqS {i j : Str} : RvD K (rEq2 K) (.str i) (.str j) (.bool (decide (i = j))) := fun G H x y gh a b Q q => by
  cases a; cases b
  refine .inl ⟨rfl, ?_⟩
  have e : decide (V.str i = V.str j) = decide (i = j) := by
    by_cases z : i = j
    · subst z; simp
    · rw [decide_eq_false z, decide_eq_false (fun y => z (V.str.inj y))]
  rw [e]
  exact q _ G H (Ext.refl gh) (.bl _)
theorem rv_neS {i j : Str} : RvD K (rNe2 K) (.str i) (.str j) (.bool (!decide (i = j))) := fun G H x y gh a b Q q => by
  cases a; cases b
  refine .inl ⟨rfl, ?_⟩
  have e : decide (V.str i = V.str j) = decide (i = j) := by
    by_cases z : i = j
    · subst z; simp
    · rw [decide_eq_false z, decide_eq_false (fun y => z (V.str.inj y))]
  rw [e]
  exact q _ G H (Ext.refl gh) (.bl _)
theorem dp_up {K : PySem.W.Frag} {G H : Hp} (gh : Same G H) {d : PyData} {v : V} (h : At K G v d) (s : SeqAt.shaped d = true) : Dp K H v d := At.dp d v (SeqAt.canLay_of_shaped s) (h.up gh)
theorem rv_eqD {d e : PyData} (sd : SeqAt.shaped d = true) (se : SeqAt.shaped e = true) : RvD K (rEq2 K) d e (.bool (PyData.eqv d e)) := fun G H x y gh a b Q q =>
  .inr ⟨d, e, dp_up gh a sd, dp_up gh b se, sd, se, q _ G H (Ext.refl gh) (.bl _)⟩
theorem rv_neD {d e : PyData} (sd : SeqAt.shaped d = true) (se : SeqAt.shaped e = true) : RvD K (rNe2 K) d e (.bool (!PyData.eqv d e)) := fun G H x y gh a b Q q =>
  .inr ⟨d, e, dp_up gh a sd, dp_up gh b se, sd, se, q _ G H (Ext.refl gh) (.bl _)⟩
theorem ev_eqI {i j : Int} (ha : EvD K ta Γ (.int i)) (hb : EvD K tb Γ (.int j)) : EvD K (tOp (rEq2 K) ta tb) Γ (.bool (decide (i = j))) := ev_op ha hb rv_eqI
theorem ev_neI {i j : Int} (ha : EvD K ta Γ (.int i)) (hb : EvD K tb Γ (.int j)) : EvD K (tOp (rNe2 K) ta tb) Γ (.bool (!decide (i = j))) := ev_op ha hb rv_neI
theorem ev_eqS {i j : Str} (ha : EvD K ta Γ (.str i)) (hb : EvD K tb Γ (.str j)) : EvD K (tOp (rEq2 K) ta tb) Γ (.bool (decide (i = j))) := ev_op ha hb rv_eqS
theorem ev_neS {i j : Str} (ha : EvD K ta Γ (.str i)) (hb : EvD K tb Γ (.str j)) : EvD K (tOp (rNe2 K) ta tb) Γ (.bool (!decide (i = j))) := ev_op ha hb rv_neS
theorem ev_eqD {d e : PyData} (ha : EvD K ta Γ d) (hb : EvD K tb Γ e) (sd : SeqAt.shaped d = true) (se : SeqAt.shaped e = true) : EvD K (tOp (rEq2 K) ta tb) Γ (.bool (PyData.eqv d e)) := ev_op ha hb (rv_eqD sd se)
theorem ev_neD {d e : PyData} (ha : EvD K ta Γ d) (hb : EvD K tb Γ e) (sd : SeqAt.shaped d = true) (se : SeqAt.shaped e = true) : EvD K (tOp (rNe2 K) ta tb) Γ (.bool (!PyData.eqv d e)) := ev_op ha hb (rv_neD sd se)
/-- is None -/
abbrev rIsN : R2 := fun x y H Q => y = .non ∧ Q (.bl (decide (x = .non))) H
abbrev rNotN : R2 := fun x y H Q => y = .non ∧ Q (.bl (!decide (x = .non))) H
def isNone : PyData → Bool
  | .none => true
  | _ => false
theorem At.isNone {K : PySem.W.Frag} {G : Hp} {v : V} {d : PyData} (h : At K G v d) : decide (v = .non) = isNone d := by
  cases h <;> rfl
theorem ev_isN {d : PyData} (ha : EvD K ta Γ d) : EvD K (tOp rIsN ta (tC .non)) Γ (.bool (isNone d)) := ev_op (e := .none) ha ev_non fun G H x y gh a b Q q => by
  cases b
  exact ⟨rfl, by rw [a.isNone]; exact q _ G H (Ext.refl gh) (.bl _)⟩
theorem ev_notN {d : PyData} (ha : EvD K ta Γ d) : EvD K (tOp rNotN ta (tC .non)) Γ (.bool (!isNone d)) := ev_op (e := .none) ha ev_non fun G H x y gh a b Q q => by
  cases b
  exact ⟨rfl, by rw [a.isNone]; exact q _ G H (Ext.refl gh) (.bl _)⟩
/-- a op b op c of ints -/
theorem ev_chain {r r' : R2} {d e f : PyData} {b c : Bool} (ha : EvD K ta Γ d) (hb : EvD K tb Γ e) (hc : b = true → EvD K tc Γ f) (h1 : RvD K r d e (.bool b)) (h2 : b = true → RvD K r' e f (.bool c)) : EvD K (tChain r r' ta tb tc) Γ (.bool (b && c)) :=
  fun H0 G H σ s gh Q q => ha H0 G H σ s gh _ fun x G1 H1 e1 a1 => hb H0 G1 H1 σ (s.ext e1) e1.gh _ fun y G2 H2 e2 a2 => h1 G2 H2 x y e2.gh (a1.up e2.gg) a2 _ fun z G3 H3 e3 a3 => by
    cases a3
    refine ⟨b, rfl, ?_⟩
    cases b with
    | false => exact q _ G3 H3 ((e1.trans e2).trans e3) (.bl false)
    | true =>
      have e123 := (e1.trans e2).trans e3
      exact hc rfl H0 G3 H3 σ (s.ext e123) e3.gh _ fun w G4 H4 e4 a4 => h2 rfl G4 H4 y w e4.gh (a2.up (e3.gg.trans e4.gg)) a4 Q fun v G5 H5 e5 a5 => q v G5 H5 ((e123.trans e4).trans e5) a5
theorem rv_lt {i j : Int} : RvD K rLtI (.int i) (.int j) (.bool (decide (i < j))) := rv_I0b
theorem rv_le {i j : Int} : RvD K rLeI (.int i) (.int j) (.bool (decide (i ≤ j))) := rv_I0b
/-- i <= j < k and i <= j <= k -/
theorem ev_leLt {i j k : Int} (ha : EvD K ta Γ (.int i)) (hb : EvD K tb Γ (.int j)) (hc : EvD K tc Γ (.int k)) : EvD K (tChain rLeI rLtI ta tb tc) Γ (.bool (decide (i ≤ j) && decide (j < k))) := ev_chain ha hb (fun _ => hc) rv_le (fun _ => rv_lt)
theorem ev_leLe {i j k : Int} (ha : EvD K ta Γ (.int i)) (hb : EvD K tb Γ (.int j)) (hc : EvD K tc Γ (.int k)) : EvD K (tChain rLeI rLeI ta tb tc) Γ (.bool (decide (i ≤ j) && decide (j ≤ k))) := ev_chain ha hb (fun _ => hc) rv_le (fun _ => rv_le)

/-! ### and, or, not as values; conditional expressions -/
theorem ev_and {a b : Bool} (ha : EvD K ta Γ (.bool a)) (hb : a = true → EvD K tb Γ (.bool b)) : EvD K (tAndV ta tb) Γ (.bool (a && b)) := fun H0 G H σ s gh Q q => ha H0 G H σ s gh _ fun x G1 H1 e1 a1 => by
  cases a1
  refine ⟨a, rfl, ?_⟩
  cases a with
  | true => exact hb rfl H0 G1 H1 σ (s.ext e1) e1.gh Q fun v G2 H2 e2 a2 => q v G2 H2 (e1.trans e2) a2
  | false => exact q _ G1 H1 e1 (.bl false)
theorem ev_or {a b : Bool} (ha : EvD K ta Γ (.bool a)) (hb : a = false → EvD K tb Γ (.bool b)) : EvD K (tOrV ta tb) Γ (.bool (a || b)) := fun H0 G H σ s gh Q q => ha H0 G H σ s gh _ fun x G1 H1 e1 a1 => by
  cases a1
  refine ⟨a, rfl, ?_⟩
  cases a with
  | false => exact hb rfl H0 G1 H1 σ (s.ext e1) e1.gh Q fun v G2 H2 e2 a2 => q v G2 H2 (e1.trans e2) a2
  | true => exact q _ G1 H1 e1 (.bl true)
theorem ev_not {a : Bool} (ha : EvD K ta Γ (.bool a)) : EvD K (tNotV ta) Γ (.bool (!a)) := fun H0 G H σ s gh Q q => ha H0 G H σ s gh _ fun x G1 H1 e1 a1 => by
  cases a1
  exact ⟨a, rfl, q _ G1 H1 e1 (.bl _)⟩
/-! ### tests -/
theorem et_test {b : Bool} (h : EvD K te Γ (.bool b)) : EvT K (tTest te) Γ b := fun H0 G H σ s gh Q q => h H0 G H σ s gh _ fun x G1 H1 e1 a1 => by
  cases a1; exact ⟨b, rfl, q G1 H1 e1⟩
theorem et_B {b : Bool} (h : EvD K te Γ (.bool b)) : EvT K (tB te) Γ b := fun H0 G H σ s gh Q q => h H0 G H σ s gh _ fun x G1 H1 e1 a1 => by
  cases a1; exact ⟨b, rfl, q G1 H1 e1⟩
theorem et_and {a b : Bool} (h1 : EvT K t Γ a) (h2 : a = true → EvT K u Γ b) : EvT K (tAnd t u) Γ (a && b) := fun H0 G H σ s gh Q q => h1 H0 G H σ s gh _ fun G1 H1 e1 => by
  cases a with
  | true => exact h2 rfl H0 G1 H1 σ (s.ext e1) e1.gh Q fun G2 H2 e2 => q G2 H2 (e1.trans e2)
  | false => exact q G1 H1 e1
theorem et_or {a b : Bool} (h1 : EvT K t Γ a) (h2 : a = false → EvT K u Γ b) : EvT K (tOr t u) Γ (a || b) := fun H0 G H σ s gh Q q => h1 H0 G H σ s gh _ fun G1 H1 e1 => by
  cases a with
  | false => exact h2 rfl H0 G1 H1 σ (s.ext e1) e1.gh Q fun G2 H2 e2 => q G2 H2 (e1.trans e2)
  | true => exact q G1 H1 e1
theorem et_not {a : Bool} (h1 : EvT K t Γ a) : EvT K (tNot t) Γ (!a) := fun H0 G H σ s gh Q q => h1 H0 G H σ s gh _ fun G1 H1 e1 => q G1 H1 e1
theorem et_yes : EvT K tYes Γ true := fun H0 G H σ s gh Q q => q G H (Ext.refl gh)
theorem ev_if {b : Bool} {d : PyData} (h : EvT K t Γ b) (h1 : b = true → EvD K ta Γ d) (h2 : b = false → EvD K tb Γ d) : EvD K (tIf t ta tb) Γ d := fun H0 G H σ s gh Q q => h H0 G H σ s gh _ fun G1 H1 e1 => by
  cases b with
  | true => exact h1 rfl H0 G1 H1 σ (s.ext e1) e1.gh Q fun v G2 H2 e2 a2 => q v G2 H2 (e1.trans e2) a2
  | false => exact h2 rfl H0 G1 H1 σ (s.ext e1) e1.gh Q fun v G2 H2 e2 a2 => q v G2 H2 (e1.trans e2) a2

/-! ### arguments, displays -/
theorem ea_nil : EvA K tNil Γ [] := fun H0 G H σ s gh Q q => q [] G H (Ext.refl gh) .nil
theorem ea_cons {tr : TA} {d : PyData} {ds : List PyData} (h : EvD K ta Γ d) (hr : EvA K tr Γ ds) : EvA K (tCons ta tr) Γ (d :: ds) := fun H0 G H σ s gh Q q =>
  h H0 G H σ s gh _ fun x G1 H1 e1 a1 => hr H0 G1 H1 σ (s.ext e1) e1.gh _ fun xs G2 H2 e2 a2 => q _ G2 H2 (e1.trans e2) (.cons (a1.up e2.gg) a2)
theorem eo_lst {ta : TA} {ds : List PyData} (h : EvA K ta Γ ds) (hl : ds.length ≤ 100000) : EvO K (tLst ta) Γ ds := fun H0 G H σ s gh Q q =>
  h H0 G H σ s gh _ fun vs G1 H1 e1 a1 => ⟨by rw [a1.length]; exact Nat.le_trans hl (by decide), fun p hp => q p vs G1 _ (e1.trans (Ext.own e1.gh hp)) (e1.hh.free hp) (e1.gh.free hp) upd_same a1⟩
theorem ev_tup {ta : TA} {ds : List PyData} (h : EvA K ta Γ ds) (hl : ds.length ≤ 100000) : EvD K (tTup ta) Γ (.tuple ds) := fun H0 G H σ s gh Q q =>
  h H0 G H σ s gh _ fun vs G1 H1 e1 a1 => ⟨by rw [a1.length]; exact Nat.le_trans hl (by decide), fun p hp => by
    have e2 : Ext G1 H1 (upd G1 p (.tup vs)) (upd H1 p (.tup vs)) := Ext.new e1.gh hp
    exact q _ _ _ (e1.trans e2) (.tup upd_same (a1.up e2.gg))⟩
theorem ep_none : EvP K tNoPart Γ none := fun H0 G H σ s gh Q q => q G H (Ext.refl gh)
theorem ep_some {i : Int} (h : EvD K te Γ (.int i)) : EvP K (tPart te) Γ (some i) := fun H0 G H σ s gh Q q => h H0 G H σ s gh _ fun x G1 H1 e1 a1 => by
  cases a1; exact ⟨i, rfl, q G1 H1 e1⟩
/-- the items of ds[lo:hi] -/
def cutD (ds : List PyData) (lo hi : Option Int) : List PyData := (ds.drop (HT.sIx ds.length 0 lo)).take (HT.sIx ds.length ds.length hi - HT.sIx ds.length 0 lo)
theorem eo_cut {tl th : TO} {ds : List PyData} {lo hi : Option Int} (h : EvD K te Γ (.list ds)) (h1 : EvP K tl Γ lo) (h2 : EvP K th Γ hi) : EvO K (tSl (rSlL K) te tl th) Γ (cutD ds lo hi) := fun H0 G H σ s gh Q q =>
  h H0 G H σ s gh _ fun x G1 H1 e1 a1 => h1 H0 G1 H1 σ (s.ext e1) e1.gh _ fun G2 H2 e2 => h2 H0 G2 H2 σ (s.ext (e1.trans e2)) e2.gh _ fun G3 H3 e3 => by
    have e := (e1.trans e2).trans e3
    cases a1 with
    | lst b1 b2 =>
      rename_i a xs
      have hx : H3 a = some (.lst xs) := e3.gh _ _ (e3.gg _ _ (e2.gg _ _ b1))
      refine ⟨a, xs, rfl, SqL.of hx, fun p hp => q p _ G3 _ (e.trans (Ext.own e3.gh hp)) (e.hh.free hp) (e3.gh.free hp) upd_same ?_⟩
      unfold cutV cutD
      rw [b2.length]
      exact ((b2.up (e2.gg.trans e3.gg)).drop _).take _
/-- a slice of the script -/
theorem eo_cutScr {tl th : TO} {ns : List Int} {lo hi : Option Int} (h : EvD K te Γ (scr ns)) (h1 : EvP K tl Γ lo) (h2 : EvP K th Γ hi) : EvO K (tSl (rSlL K) te tl th) Γ (cutD (ns.map .int) lo hi) := fun H0 G H σ s gh Q q =>
  h H0 G H σ s gh _ fun x G1 H1 e1 a1 => h1 H0 G1 H1 σ (s.ext e1) e1.gh _ fun G2 H2 e2 => h2 H0 G2 H2 σ (s.ext (e1.trans e2)) e2.gh _ fun G3 H3 e3 => by
    have e := (e1.trans e2).trans e3
    obtain ⟨a, rfl, b1⟩ := a1.scrI
    · have hx : SqL K H3 a (ns.map V.int) := (e2.gg.trans (e3.gg.trans e3.gh)).seq b1
      refine ⟨a, _, rfl, hx, fun p hp => q p _ G3 _ (e.trans (Ext.own e3.gh hp)) (e.hh.free hp) (e3.gh.free hp) upd_same ?_⟩
      unfold cutV cutD
      rw [List.length_map, List.length_map]
      exact ((atAll_ints ns).drop _).take _

/-! ### calls of built-ins, by values -/
/-- what a call gives on data -/
def RcD (K : PySem.W.Frag) (r : List V → Hp → VK → Prop) (ds : List PyData) (f : PyData) : Prop := ∀ (G H : Hp) (vs : List V), Same G H → AtAll K G vs ds → ∀ Q : VK, (∀ v G' H', Ext G H G' H' → At K G' v f → Q v H') → r vs H Q
def RcO (K : PySem.W.Frag) (r : List V → Hp → VK → Prop) (ds : List PyData) (fs : List PyData) : Prop := ∀ (G H : Hp) (vs : List V), Same G H → AtAll K G vs ds → ∀ Q : VK,
  (∀ p vs G' H', Ext G H G' H' → H p = none → G' p = none → H' p = some (.lst vs) → AtAll K G' vs fs → Q (.ref p) H') → r vs H Q
theorem ev_cb {r : List V → Hp → VK → Prop} {ta : TA} {ds : List PyData} {f : PyData} (h : EvA K ta Γ ds) (hr : RcD K r ds f) : EvD K (tCB r ta) Γ f := fun H0 G H σ s gh Q q =>
  h H0 G H σ s gh _ fun vs G1 H1 e1 a1 => hr G1 H1 vs e1.gh a1 Q fun v G2 H2 e2 a2 => q v G2 H2 (e1.trans e2) a2
theorem eo_cb {r : List V → Hp → VK → Prop} {ta : TA} {ds fs : List PyData} (h : EvA K ta Γ ds) (hr : RcO K r ds fs) : EvO K (tCB r ta) Γ fs := fun H0 G H σ s gh Q q =>
  h H0 G H σ s gh _ fun vs G1 H1 e1 a1 => hr G1 H1 vs e1.gh a1 Q fun p ws G2 H2 e2 hp gp h2 a2 => q p ws G2 H2 (e1.trans e2) (e1.hh.free hp) gp h2 a2
def rLenV (K : PySem.W.Frag) : List V → Hp → VK → Prop := fun xs H Q => ∃ x n, xs = [x] ∧ LenV K x H n ∧ Q (.int n) H
theorem ev_lenL {ds : List PyData} (ha : EvD K ta Γ (.list ds)) : EvD K (tCB (rLenV K) (tCons ta tNil)) Γ (.int (ds.length : Int)) := ev_cb (ea_cons ha ea_nil) fun G H vs gh a Q q => by
  cases a with
  | cons a1 a2 =>
    cases a2
    cases a1 with
    | lst b1 b2 =>
      rename_i l xs
      exact ⟨_, ds.length, rfl, .inl ⟨xs, SqL.of (gh _ _ b1), b2.length.symm⟩, q _ G H (Ext.refl gh) (.int _)⟩
theorem ev_lenT {ds : List PyData} (ha : EvD K ta Γ (.tuple ds)) : EvD K (tCB (rLenV K) (tCons ta tNil)) Γ (.int (ds.length : Int)) := ev_cb (ea_cons ha ea_nil) fun G H vs gh a Q q => by
  cases a with
  | cons a1 a2 =>
    cases a2
    cases a1 with
    | tup b1 b2 =>
      rename_i l xs
      exact ⟨_, ds.length, rfl, .inr ⟨xs, SqT.of (gh _ _ b1), b2.length.symm⟩, q _ G H (Ext.refl gh) (.int _)⟩
theorem ev_lenScr {ns : List Int} (ha : EvD K ta Γ (scr ns)) : EvD K (tCB (rLenV K) (tCons ta tNil)) Γ (.int (ns.length : Int)) := ev_cb (ea_cons ha ea_nil) fun G H vs gh a Q q => by
  cases a with
  | cons a1 a2 =>
    cases a2
    obtain ⟨a, rfl, b1⟩ := a1.scrI
    · exact ⟨_, ns.length, rfl, .inl ⟨_, gh.seq b1, by simp⟩, q _ G H (Ext.refl gh) (.int _)⟩
theorem ev_lenS {z : Str} (ha : EvD K ta Γ (.str z)) (hz : z.length ≤ sizeLine) : EvD K (tCB (rLenV K) (tCons ta tNil)) Γ (.int (z.length : Int)) := ev_cb (ea_cons ha ea_nil) fun G H vs gh a Q q => by
  cases a with
  | cons a1 a2 =>
    cases a2
    cases a1
    exact ⟨_, z.length, rfl, ⟨hz, rfl⟩, q _ G H (Ext.refl gh) (.int _)⟩
def rListV (K : PySem.W.Frag) : List V → Hp → VK → Prop := fun xs H Q => ∃ p ys, xs = [.ref p] ∧ (SqL K H p ys ∨ SqT K H p ys) ∧ ∀ l, H l = none → Q (.ref l) (upd H l (.lst ys))
theorem eo_list {ds : List PyData} (ha : EvD K ta Γ (.list ds)) : EvO K (tCB (rListV K) (tCons ta tNil)) Γ ds := eo_cb (ea_cons ha ea_nil) fun G H vs gh a Q q => by
  cases a with
  | cons a1 a2 =>
    cases a2
    cases a1 with
    | lst b1 b2 =>
      rename_i l xs
      exact ⟨l, xs, rfl, .inl (SqL.of (gh _ _ b1)), fun p hp => q p xs G _ (Ext.own gh hp) hp (gh.free hp) upd_same b2⟩
theorem eo_listT {ds : List PyData} (ha : EvD K ta Γ (.tuple ds)) : EvO K (tCB (rListV K) (tCons ta tNil)) Γ ds := eo_cb (ea_cons ha ea_nil) fun G H vs gh a Q q => by
  cases a with
  | cons a1 a2 =>
    cases a2
    cases a1 with
    | tup b1 b2 =>
      rename_i l xs
      exact ⟨l, xs, rfl, .inr (SqT.of (gh _ _ b1)), fun p hp => q p xs G _ (Ext.own gh hp) hp (gh.free hp) upd_same b2⟩
def rTupleV (K : PySem.W.Frag) : List V → Hp → VK → Prop := fun xs H Q => ∃ p ys, xs = [.ref p] ∧ ((SqL K H p ys ∧ ∀ l, H l = none → Q (.ref l) (upd H l (.tup ys))) ∨ (SqT K H p ys ∧ Q (.ref p) H))
theorem ev_tuple {ds : List PyData} (ha : EvD K ta Γ (.list ds)) : EvD K (tCB (rTupleV K) (tCons ta tNil)) Γ (.tuple ds) := ev_cb (ea_cons ha ea_nil) fun G H vs gh a Q q => by
  cases a with
  | cons a1 a2 =>
    cases a2
    cases a1 with
    | lst b1 b2 =>
      rename_i l xs
      refine ⟨l, xs, rfl, .inl ⟨SqL.of (gh _ _ b1), fun p hp => ?_⟩⟩
      have e2 : Ext G H (upd G p (.tup xs)) (upd H p (.tup xs)) := Ext.new gh hp
      exact q _ _ _ e2 (.tup upd_same (b2.up e2.gg))
/-- sum, max, all -/
theorem ev_sum {ns : List Int} (ha : EvD K ta Γ (.list (ns.map .int))) : EvD K (tCB (rSum K) (tCons ta tNil)) Γ (.int ns.sum) := ev_cb (ea_cons ha ea_nil) fun G H vs gh a Q q => by
  cases a with
  | cons a1 a2 =>
    cases a2
    cases a1 with
    | lst b1 b2 =>
      rename_i l xs
      have e := b2.ints
      subst e
      exact ⟨l, ns, rfl, SqL.of (gh _ _ b1), q _ G H (Ext.refl gh) (.int _)⟩
theorem ev_all {bs : List Bool} (ha : EvD K ta Γ (.list (bs.map .bool))) : EvD K (tCB (rAll K) (tCons ta tNil)) Γ (.bool (bs.all id)) := ev_cb (ea_cons ha ea_nil) fun G H vs gh a Q q => by
  cases a with
  | cons a1 a2 =>
    cases a2
    cases a1 with
    | lst b1 b2 =>
      rename_i l xs
      have e := b2.bools
      subst e
      exact ⟨l, bs, rfl, SqL.of (gh _ _ b1), q _ G H (Ext.refl gh) (.bl _)⟩
/-- the greatest of some -/
def maxL : List Int → Int
  | [] => 0
  | [x] => x
  | x :: y :: r => max x (maxL (y :: r))
theorem maxL_mem : ∀ {ns : List Int}, ns ≠ [] → maxL ns ∈ ns
  | [], h => absurd rfl h
  | [x], _ => by simp [maxL]
  | x :: y :: r, _ => by
    have ih := maxL_mem (ns := y :: r) (by simp)
    show max x (maxL (y :: r)) ∈ _
    by_cases z : x ≤ maxL (y :: r)
    · rw [show max x (maxL (y :: r)) = maxL (y :: r) by omega]; exact List.mem_cons_of_mem _ ih
    · rw [show max x (maxL (y :: r)) = x by omega]; exact List.mem_cons_self
theorem le_maxL : ∀ {ns : List Int} {x : Int}, x ∈ ns → x ≤ maxL ns
  | [], x, h => by cases h
  | [y], x, h => by have : x = y := by simpa using h
                    subst this; exact Int.le_refl _
  | y :: z :: r, x, h => by
    show x ≤ max y (maxL (z :: r))
    rcases List.mem_cons.mp h with e | e
    · omega
    · have := le_maxL (ns := z :: r) e; omega
theorem ev_max {ns : List Int} (ha : EvD K ta Γ (.list (ns.map .int))) (hn : ns ≠ []) : EvD K (tCB (rMax K) (tCons ta tNil)) Γ (.int (maxL ns)) := ev_cb (ea_cons ha ea_nil) fun G H vs gh a Q q => by
  cases a with
  | cons a1 a2 =>
    cases a2
    cases a1 with
    | lst b1 b2 =>
      rename_i l xs
      have e := b2.ints
      subst e
      refine ⟨l, ns, rfl, SqL.of (gh _ _ b1), List.length_pos_iff.mpr hn, fun m hm hle => ?_⟩
      have e : m = maxL ns := Int.le_antisymm (le_maxL hm) (hle _ (maxL_mem hn))
      subst e
      exact q _ G H (Ext.refl gh) (.int _)
def rMax2V : List V → Hp → VK → Prop := fun xs H Q => ∃ i j, xs = [.int i, .int j] ∧ Q (.int (if j > i then j else i)) H
def rMin2V : List V → Hp → VK → Prop := fun xs H Q => ∃ i j, xs = [.int i, .int j] ∧ Q (.int (if j < i then j else i)) H
theorem ev_max2 {i j : Int} (ha : EvD K ta Γ (.int i)) (hb : EvD K tb Γ (.int j)) : EvD K (tCB rMax2V (tCons ta (tCons tb tNil))) Γ (.int (max i j)) := ev_cb (ea_cons ha (ea_cons hb ea_nil)) fun G H vs gh a Q q => by
  cases a with
  | cons a1 a2 =>
    cases a1
    cases a2 with
    | cons a2 a3 =>
      cases a2
      cases a3
      refine ⟨i, j, rfl, ?_⟩
      rw [show (if j > i then j else i) = max i j by split <;> omega]
      exact q _ G H (Ext.refl gh) (.int _)
theorem ev_min2 {i j : Int} (ha : EvD K ta Γ (.int i)) (hb : EvD K tb Γ (.int j)) : EvD K (tCB rMin2V (tCons ta (tCons tb tNil))) Γ (.int (min i j)) := ev_cb (ea_cons ha (ea_cons hb ea_nil)) fun G H vs gh a Q q => by
  cases a with
  | cons a1 a2 =>
    cases a1
    cases a2 with
    | cons a2 a3 =>
      cases a2
      cases a3
      refine ⟨i, j, rfl, ?_⟩
      rw [show (if j < i then j else i) = min i j by split <;> omega]
      exact q _ G H (Ext.refl gh) (.int _)
def rInt1V : List V → Hp → VK → Prop := fun xs H Q => (∃ i, xs = [.int i] ∧ Q (.int i) H) ∨ ∃ k, xs = [.bl k] ∧ Q (.int (if k then 1 else 0)) H
theorem ev_intB {k : Bool} (ha : EvD K ta Γ (.bool k)) : EvD K (tCB rInt1V (tCons ta tNil)) Γ (.int (if k then 1 else 0)) := ev_cb (ea_cons ha ea_nil) fun G H vs gh a Q q => by
  cases a with
  | cons a1 a2 =>
    cases a1
    cases a2
    exact .inr ⟨k, rfl, q _ G H (Ext.refl gh) (.int _)⟩
/-- isinstance(x, T) -/
def tyD : PyData → String
  | .none => "NoneType"
  | .bool _ => "bool"
  | .int _ => "int"
  | .str _ => "str"
  | .list _ => "list"
  | .tuple _ => "tuple"
  | .dict [] => "dict"
  | .dict _ => "list"
theorem At.ty {K : PySem.W.Frag} {G H : Hp} (gh : Same G H) {v : V} {d : PyData} (h : At K G v d) : TyX K H v (.type (tyD d)) := by
  cases h with
  | non => exact .base .non
  | bl b => exact .base (.bl b)
  | int i => exact .base (.int i)
  | str x => exact .base (.str x)
  | lst h1 _ => exact .base (.lst (gh _ _ h1))
  | tup h1 _ => exact .base (.tup (gh _ _ h1))
  | dic h1 => exact .base (.dK (gh _ _ h1))
  | scr h1 _ =>
    rcases gh.seq h1 with (z | ⟨o, z⟩) | ⟨o, its, n, z, c, _⟩
    · exact .base (.lst z)
    · exact .base (.frz z)
    · exact .kList z c
theorem ev_isi {d : PyData} {n : String} {b : Bool} (ha : EvD K ta Γ d) (h : kitB (tyD d) n = some b) : EvD K (tCB (rIsi K) (tCons ta (tCons (tC (.ty n)) tNil))) Γ (.bool b) := fun H0 G H σ s gh Q q =>
  ha H0 G H σ s gh _ fun v G1 H1 e1 a1 => ⟨v, .ty n, _, _, b, rfl, .ty n, a1.ty e1.gh, kit_ty h, q _ G1 H1 e1 (.bl b)⟩

/-! ### in -/
def rInV (K : PySem.W.Frag) (neg : Bool) : R2 := rIn K neg
theorem flat_at {K : PySem.W.Frag} {G : Hp} {v : V} {d : PyData} (s : scal d = true) (h : At K G v d) : flatV v = true := by
  cases h <;> first | rfl | (simp [scal] at s)
theorem all_flat {K : PySem.W.Frag} {G : Hp} {ns : List Int} : (ns.map V.int).all flatV = true := by
  induction ns with
  | nil => rfl
  | cons n ns ih => rw [List.map_cons, List.all_cons, ih]; rfl
theorem inV_ints {i : Int} {ns : List Int} : inV (.int i) (ns.map V.int) = decide (i ∈ ns) := by
  unfold inV
  induction ns with
  | nil => simp
  | cons n ns ih =>
    rw [List.map_cons, List.any_cons, ih]
    show ((n == i) || decide (i ∈ ns)) = _
    by_cases z : n = i
    · subst z; simp
    · have z' : ¬ i = n := fun y => z y.symm
      simp [z, z']
theorem ev_inI {i : Int} {ns : List Int} (ha : EvD K ta Γ (.int i)) (hb : EvD K tb Γ (.list (ns.map .int))) : EvD K (tOp (rIn K false) ta tb) Γ (.bool (decide (i ∈ ns))) := ev_op ha hb fun G H x y gh a b Q q => by
  cases a
  cases b with
  | lst b1 b2 =>
    have e := b2.ints
    subst e
    refine ⟨_, _, rfl, .inl (SqL.of (gh _ _ b1)), rfl, all_flat (K := K) (G := G), ?_⟩
    rw [inV_ints]
    exact q _ G H (Ext.refl gh) (.bl _)
theorem ev_ninI {i : Int} {ns : List Int} (ha : EvD K ta Γ (.int i)) (hb : EvD K tb Γ (.list (ns.map .int))) : EvD K (tOp (rIn K true) ta tb) Γ (.bool (!decide (i ∈ ns))) := ev_op ha hb fun G H x y gh a b Q q => by
  cases a
  cases b with
  | lst b1 b2 =>
    have e := b2.ints
    subst e
    refine ⟨_, _, rfl, .inl (SqL.of (gh _ _ b1)), rfl, all_flat (K := K) (G := G), ?_⟩
    rw [inV_ints]
    exact q _ G H (Ext.refl gh) (.bl _)
/-- in a list of data at any depth -/
theorem ev_ninD {d : PyData} {ds : List PyData} (ha : EvD K ta Γ d) (hb : EvD K tb Γ (.list ds)) (sd : SeqAt.shaped d = true) (se : SeqAt.shaped (.list ds) = true) : EvD K (tOp (rNotInD K) ta tb) Γ (.bool (!ds.any fun z => PyData.eqv z d)) :=
  ev_op ha hb fun G H x y gh a b Q q => ⟨d, ds, dp_up gh a sd, dp_up gh b se, sd, se, q _ G H (Ext.refl gh) (.bl _)⟩
theorem ev_inD {d : PyData} {ds : List PyData} (ha : EvD K ta Γ d) (hb : EvD K tb Γ (.list ds)) (sd : SeqAt.shaped d = true) (se : SeqAt.shaped (.list ds) = true) : EvD K (tOp (rInD K) ta tb) Γ (.bool (ds.any fun z => PyData.eqv z d)) :=
  ev_op ha hb fun G H x y gh a b Q q => ⟨d, ds, dp_up gh a sd, dp_up gh b se, sd, se, q _ G H (Ext.refl gh) (.bl _)⟩
end
end PD

set_option Elab.async false
set_option linter.all false
set_option maxRecDepth 100000
set_option maxHeartbeats 1000000
/-! Targets, comprehensions, contracts, statements over data. -/
namespace PD
open PySem L2

/-! ### targets -/
def TgD (K : PySem.W.Frag) (g : TG) (d : PyData) (Γ Γ' : Env) (ws : List Nat) : Prop := ∀ (H0 G H : Hp) (σ : St) (v : V), Sat K H0 G H σ Γ → Same G H → At K G v d → ∀ Q : St → Hp → Prop,
  (∀ σ', Sat K H0 G H σ' Γ' → σ'.length = σ.length → (∀ i, i ∉ ws → σ'[i]? = σ[i]?) → Q σ' H) → g v σ H Q
section
variable {K : PySem.W.Frag} {Γ Γ' : Env}
theorem tg_name {j : Nat} {d : PyData} : TgD K (gName j) d Γ (Γ.set j (.da d)) [j] := fun H0 G H σ v s gh a Q q =>
  q _ (s.setD a) (by simp) fun i hi => List.getElem?_set_ne (fun e => hi (by simp [e]))
theorem tg_tup2 {i j : Nat} {d e : PyData} : TgD K (gTup K 2 (gCons (gName i) (gCons (gName j) gNil))) (.tuple [d, e]) Γ ((Γ.set i (.da d)).set j (.da e)) [i, j] := fun H0 G H σ v s gh a Q q => by
  cases a with
  | tup h1 h2 =>
    cases h2 with
    | cons a1 a2 =>
      cases a2 with
      | cons a3 a4 =>
        cases a4
        refine ⟨_, _, rfl, SqT.of (gh _ _ h1), rfl, _, _, rfl, _, _, rfl, rfl, ?_⟩
        refine q _ ((s.setD a1).setD a3) (by simp) fun k hk => ?_
        have n1 : ¬ i = k := fun e => hk (by simp [e])
        have n2 : ¬ j = k := fun e => hk (by simp [e])
        rw [List.getElem?_set_ne n2, List.getElem?_set_ne n1]
end

/-! ### comprehensions -/
def wipeE (Γ : Env) : List Nat → Env
  | [] => Γ
  | v :: vs => (wipeE Γ vs).set v .no
theorem Sat.wipe {K : PySem.W.Frag} {H0 G H : Hp} {σ : St} {Γ : Env} (s : Sat K H0 G H σ Γ) : ∀ vs : List Nat, Sat K H0 G H (L2.wipe σ vs) (wipeE Γ vs)
  | [] => s
  | v :: vs => (Sat.wipe s vs).setN
theorem wipe_get (σ : St) (i : Nat) : ∀ vs : List Nat, (L2.wipe σ vs)[i]? = if i ∈ vs ∧ i < σ.length then some none else σ[i]?
  | [] => by simp [L2.wipe]
  | v :: vs => by
    unfold L2.wipe
    by_cases z : v = i
    · subst z
      by_cases hl : v < σ.length
      · rw [List.getElem?_set_self (by rw [wipe_length]; exact hl), if_pos ⟨List.mem_cons_self, hl⟩]
      · rw [if_neg (fun h => hl h.2), List.getElem?_eq_none (by rw [List.length_set, wipe_length]; omega), List.getElem?_eq_none (by omega)]
    · rw [List.getElem?_set_ne z, wipe_get σ i vs]
      have e : (i ∈ v :: vs) ↔ i ∈ vs := by
        rw [List.mem_cons]
        exact ⟨fun h => h.elim (fun y => absurd y.symm z) id, .inr⟩
      simp only [e]
theorem wipe_same {σ τ : St} {vs : List Nat} (hl : τ.length = σ.length) (h : ∀ i, i ∉ vs → τ[i]? = (L2.wipe σ vs)[i]?) : L2.wipe τ vs = L2.wipe σ vs := by
  refine List.ext_getElem? fun i => ?_
  rw [wipe_get, wipe_get]
  by_cases z : i ∈ vs
  · rw [hl]
    by_cases y : i < σ.length
    · rw [if_pos ⟨z, y⟩, if_pos ⟨z, y⟩]
    · rw [if_neg (fun q => y q.2), if_neg (fun q => y q.2), List.getElem?_eq_none (by omega), List.getElem?_eq_none (by omega)]
  · rw [if_neg (fun q => z q.1), if_neg (fun q => z q.1), h i z, wipe_get, if_neg (fun q => z q.1)]
section
variable {K : PySem.W.Frag} {Γ : Env} {ta tl te : TE} {tt : TT} {g : TG} {vs : List Nat}
/-- the new list D within a comprehension, behind the turns' results es -/
def Cw (K : PySem.W.Frag) (G1 H1 : Hp) (D : Addr) (es : List PyData) (H : Hp) : Prop := ∃ (G : Hp) (acc : List V), Ext G1 H1 G H ∧ H D = some (.lst acc) ∧ G D = none ∧ AtAll K G acc es
theorem cw_start {G1 H1 : Hp} {D : Addr} (gh : Same G1 H1) (hD : H1 D = none) : Cw K G1 H1 D [] (upd H1 D (.lst [])) := ⟨G1, [], Ext.own gh hD, upd_same, gh.free hD, .nil⟩
theorem cw_turn {H0 G1 H1 H : Hp} {D : Addr} {es : List PyData} {σ : St} {b : Bool} {d e : PyData} {v : V} {Γ' : Env} (hD : H1 D = none) (s : Sat K H0 G1 H1 σ Γ) (p : Cw K G1 H1 D es H) (hz : es.length ≤ 100000) (a : At K G1 v d)
    (hg : TgD K g d (wipeE Γ vs) Γ' vs) (ht : EvT K tt Γ' b) (he : b = true → EvD K te Γ' e) {Nx : Hp → Prop}
    (h1 : b = true → ∀ H', Cw K G1 H1 D (es ++ [e]) H' → Nx H') (h2 : b = false → ∀ H', Cw K G1 H1 D es H' → Nx H') :
    g v (L2.wipe σ vs) H fun σ2 H2 => L2.wipe σ2 vs = L2.wipe σ vs ∧ tt σ2 H2 fun b H3 => if b = true then te σ2 H3 fun y H4 => ∃ acc, H4 D = some (.lst acc) ∧ acc.length < sizeLine ∧ Nx (upd H4 D (.lst (acc ++ [y]))) else Nx H3 := by
  obtain ⟨G, acc, ex, hd, gd, ha⟩ := p
  refine hg H0 G H _ v ((s.ext ex).wipe vs) ex.gh (a.up ex.gg) _ fun σ2 s2 l2 k2 => ⟨wipe_same (by rw [l2, wipe_length]) k2, ?_⟩
  refine ht H0 G H σ2 s2 ex.gh _ fun G3 H3 e3 => ?_
  have g3 : G3 D = none := e3.fr D gd (by rw [hd]; exact fun z => nomatch z)
  have d3 : H3 D = some (.lst acc) := e3.hh _ _ hd
  cases b with
  | false =>
    show Nx H3
    exact h2 rfl H3 ⟨G3, acc, ex.trans e3, d3, g3, ha.up e3.gg⟩
  | true =>
    show te σ2 H3 _
    refine he rfl H0 G3 H3 σ2 (s2.ext e3) e3.gh _ fun y G4 H4 e4 a4 => ?_
    have g4 : G4 D = none := e4.fr D g3 (by rw [d3]; exact fun z => nomatch z)
    have e14 := (ex.trans e3).trans e4
    have hlen := ha.length
    refine ⟨acc, e4.hh _ _ d3, by rw [hlen]; exact Nat.lt_of_le_of_lt hz (by decide), h1 rfl _ ⟨G4, acc ++ [y], ⟨fun c x q => ?_, e14.gg, fun c x q => ?_, e14.fr⟩, upd_same, g4, (ha.up (e3.gg.trans e4.gg)).snoc a4⟩⟩
    · rw [upd_ne (ne_of_none q hD)]; exact e14.hh _ _ q
    · rw [upd_ne (ne_of_none q g4)]; exact e14.gh _ _ q
theorem take_more {α : Type} {l : List α} {i : Nat} {x : α} (h : l[i]? = some x) : l.take (i + 1) = l.take i ++ [x] := by
  rw [List.take_add_one, h]; rfl
/-- [f x for target in xs if b x] -/
theorem eo_lcL {α : Type} (xs : List α) (emb : α → PyData) (b : α → Bool) (f : α → PyData) (Γx : α → Env) (h : EvD K tl Γ (.list (xs.map emb))) (hz : xs.length ≤ 100000)
    (hg : ∀ x ∈ xs, TgD K g (emb x) (wipeE Γ vs) (Γx x) vs) (ht : ∀ x ∈ xs, EvT K tt (Γx x) (b x)) (he : ∀ x ∈ xs, b x = true → EvD K te (Γx x) (f x)) : EvO K (tLc (iList K tl) g tt te vs) Γ ((xs.filter b).map f) := fun H0 G H σ s gh Q q =>
  h H0 G H σ s gh _ fun v G1 H1 e1 a1 => by
    cases a1 with
    | lst l1 l2 =>
      rename_i l us
      refine ⟨l, rfl, ⟨us, SqL.of (e1.gh _ _ l1)⟩, fun D hD => ?_⟩
      refine lc_list (xs := us) (fun i H' => Cw K G1 H1 D (((xs.take i).filter b).map f) H') (cw_start e1.gh hD) (fun i H' _ p => ?_) (fun i v H' hi p => ?_) (fun H' p => ?_)
      · obtain ⟨G', acc, ex, _⟩ := p
        exact SqL.of (ex.gh _ _ (ex.gg _ _ l1))
      · obtain ⟨d, hd, ad⟩ := l2.getV hi
        rw [List.getElem?_map] at hd
        obtain ⟨x, hx, rfl⟩ := Option.map_eq_some_iff.mp hd
        have hm : x ∈ xs := List.mem_of_getElem? hx
        refine cw_turn hD (s.ext e1) p ?_ ad (hg x hm) (ht x hm) (he x hm) (fun hb H' c => ?_) (fun hb H' c => ?_)
        · rw [List.length_map]
          exact Nat.le_trans (List.length_filter_le _ _) (Nat.le_trans (by rw [List.length_take]; omega) hz)
        · rw [take_more hx, List.filter_append, List.map_append]
          simpa [hb] using c
        · rw [take_more hx, List.filter_append, List.map_append]
          simpa [hb] using c
      · obtain ⟨G', acc, ex, hd, gd, ha⟩ := p
        have hl : us.length = xs.length := by rw [l2.length, List.length_map]
        rw [hl, List.take_length] at ha
        exact q D acc G' H' (e1.trans ex) (e1.hh.free hD) gd hd ha
/-- over range(n) -/
theorem eo_lcR {ta : TA} {n : Int} (b : Nat → Bool) (f : Nat → PyData) (Γx : Nat → Env) (h : EvA K ta Γ [.int n]) (hn : 0 ≤ n ∧ n ≤ 100000)
    (hg : ∀ i : Nat, (i : Int) < n → TgD K g (.int (i : Int)) (wipeE Γ vs) (Γx i) vs) (ht : ∀ i : Nat, (i : Int) < n → EvT K tt (Γx i) (b i)) (he : ∀ i : Nat, (i : Int) < n → b i = true → EvD K te (Γx i) (f i)) :
    EvO K (tLc (iRng1 ta) g tt te vs) Γ (((List.range n.toNat).filter b).map f) := fun H0 G H σ s gh Q q =>
  h H0 G H σ s gh _ fun us G1 H1 e1 a1 => by
    have eu : us = [.int n] := (show AtAll K G1 us ([n].map .int) from a1).ints
    subst eu
    refine ⟨n, rfl, by omega, by omega, fun D hD => ?_⟩
    refine lc_range (lo := 0) (n := n.toNat) (fun i H' => Cw K G1 H1 D (((List.range i).filter b).map f) H') (cw_start e1.gh hD) (fun i H' hi p => ?_) (fun H' p => ?_)
    · have hi' : (i : Int) < n := by omega
      have e0 : (0 : Int) + (i : Int) = (i : Int) := Int.zero_add _
      show g (.int ((0 : Int) + (i : Int))) (L2.wipe σ vs) H' _
      rw [e0]
      refine cw_turn hD (s.ext e1) p ?_ (.int _) (hg i hi') (ht i hi') (he i hi') (fun hb H' c => ?_) (fun hb H' c => ?_)
      · rw [List.length_map]
        exact Nat.le_trans (List.length_filter_le _ _) (by rw [List.length_range]; omega)
      · rw [List.range_succ, List.filter_append, List.map_append]
        simpa [hb] using c
      · rw [List.range_succ, List.filter_append, List.map_append]
        simpa [hb] using c
    · obtain ⟨G', acc, ex, hd, gd, ha⟩ := p
      exact q D acc G' H' (e1.trans ex) (e1.hh.free hD) gd hd ha
theorem filter_yes {α : Type} (xs : List α) : xs.filter (fun _ => true) = xs := by simp
/-- [f x for x in xs] -/
theorem eo_mapL {α : Type} {j : Nat} (xs : List α) (emb : α → PyData) (f : α → PyData) (h : EvD K tl Γ (.list (xs.map emb))) (hz : xs.length ≤ 100000)
    (he : ∀ x ∈ xs, EvD K te ((wipeE Γ [j]).set j (.da (emb x))) (f x)) : EvO K (tLc (iList K tl) (gName j) tYes te [j]) Γ (xs.map f) := by
  have r := eo_lcL (tt := tYes) (g := gName j) (vs := [j]) xs emb (fun _ => true) f (fun x => (wipeE Γ [j]).set j (.da (emb x))) h hz (fun x _ => tg_name) (fun x _ => et_yes) (fun x hx _ => he x hx)
  rwa [filter_yes] at r
theorem eo_mapR {ta : TA} {j : Nat} {n : Int} (f : Nat → PyData) (h : EvA K ta Γ [.int n]) (hn : 0 ≤ n ∧ n ≤ 100000)
    (he : ∀ i : Nat, (i : Int) < n → EvD K te ((wipeE Γ [j]).set j (.da (.int (i : Int)))) (f i)) : EvO K (tLc (iRng1 ta) (gName j) tYes te [j]) Γ ((List.range n.toNat).map f) := by
  have r := eo_lcR (tt := tYes) (g := gName j) (vs := [j]) (fun _ => true) f (fun i => (wipeE Γ [j]).set j (.da (.int (i : Int)))) h hn (fun x _ => tg_name) (fun x _ => et_yes) (fun x hx _ => he x hx)
  rwa [filter_yes] at r
theorem eo_filL {α : Type} {j : Nat} (xs : List α) (emb : α → PyData) (b : α → Bool) (f : α → PyData) (h : EvD K tl Γ (.list (xs.map emb))) (hz : xs.length ≤ 100000)
    (ht : ∀ x ∈ xs, EvT K tt ((wipeE Γ [j]).set j (.da (emb x))) (b x)) (he : ∀ x ∈ xs, b x = true → EvD K te ((wipeE Γ [j]).set j (.da (emb x))) (f x)) : EvO K (tLc (iList K tl) (gName j) tt te [j]) Γ ((xs.filter b).map f) :=
  eo_lcL xs emb b f _ h hz (fun x _ => tg_name) ht he
end

/-! ### frozen for a moment -/
def frz1 : Sl → Sl
  | .ow ds => .da (.list ds)
  | .da d => .da d
  | .fx v o => .fx v o
  | _ => .no
def frz (Γ : Env) : Env := Γ.map frz1
open Classical in
/-- the known part, with the lists that slots own -/
theorem Sat.frz {K : PySem.W.Frag} {H0 G H : Hp} {σ : St} {Γ : Env} (s : Sat K H0 G H σ Γ) (gh : Same G H) : ∃ G2, Same G G2 ∧ Same G2 H ∧ Sat K H0 G2 H σ (PD.frz Γ) ∧ (∀ a, G a = none → G2 a ≠ none → H0 a = none) := by
  -- by the places of the slots, all at once: an address is known where it is, or where a slot owns it
  refine ⟨fun a => match G a with | some o => some o | none => if (∃ (i : Nat) (ds : List PyData), Γ[i]? = some (Sl.ow ds) ∧ σ[i]? = some (some (V.ref a))) then H a else none, ?_, ?_, ?_, ?_⟩
  · intro a o e; show (match G a with | some o => some o | none => _) = _; rw [e]
  · intro a o e
    cases q : G a with
    | some u => simp only [q] at e; cases e; exact gh a _ q
    | none =>
      simp only [q] at e
      split at e
      · exact e
      · cases e
  · have up : ∀ a o, G a = some o → (match G a with | some o => some o | none => if (∃ (i : Nat) (ds : List PyData), Γ[i]? = some (Sl.ow ds) ∧ σ[i]? = some (some (V.ref a))) then H a else none) = some o := fun a o e => by rw [e]
    have nod : ∀ {i : Nat} {ks : List Int}, ¬ (PD.frz Γ)[i]? = some (.od ks) := fun {i ks} q => by
      unfold PD.frz at q
      rw [List.getElem?_map] at q
      obtain ⟨x, hx, e⟩ := Option.map_eq_some_iff.mp q
      cases x <;> cases e
    refine ⟨by simp [PD.frz, s.len], fun i d q => ?_, fun i ds q => ?_, fun i j di dj p q1 q2 => ?_, fun i ks q => absurd q nod, fun i j di dj p q => absurd q nod, fun i v o q => ?_⟩
    · unfold PD.frz at q
      rw [List.getElem?_map] at q
      obtain ⟨x, hx, e⟩ := Option.map_eq_some_iff.mp q
      cases x with
      | no => cases e
      | od ks => cases e
      | fx v o => cases e
      | da d' =>
        cases e
        obtain ⟨v, h1, h2⟩ := s.da i d hx
        exact ⟨v, h1, h2.up up⟩
      | ow ds =>
        cases e
        obtain ⟨p, vs, h1, h2, h3, h4, h5⟩ := s.ow i ds hx
        refine ⟨_, h1, .lst (xs := vs) ?_ (h5.up up)⟩
        show (match G p with | some o => some o | none => if (∃ (i : Nat) (ds : List PyData), Γ[i]? = some (Sl.ow ds) ∧ σ[i]? = some (some (V.ref p))) then H p else none) = _
        rw [h3]
        simp only
        rw [if_pos ⟨i, ds, hx, h1⟩]
        exact h2
    · unfold PD.frz at q
      rw [List.getElem?_map] at q
      obtain ⟨x, hx, e⟩ := Option.map_eq_some_iff.mp q
      cases x <;> cases e
    · unfold PD.frz at q1
      rw [List.getElem?_map] at q1
      obtain ⟨x, hx, e⟩ := Option.map_eq_some_iff.mp q1
      cases x <;> cases e
    · unfold PD.frz at q
      rw [List.getElem?_map] at q
      obtain ⟨x, hx, e⟩ := Option.map_eq_some_iff.mp q
      cases x <;> cases e
      exact ⟨(s.fx i _ _ hx).1, fun d z => ((s.fx i _ _ hx).2 d z).up up⟩
  · intro a ga g2
    simp only [ga] at g2
    split at g2
    · rename_i hh
      obtain ⟨i, ds, h1, h2⟩ := hh
      obtain ⟨p, vs, k1, k2, k3, k4, k5⟩ := s.ow i ds h1
      rw [h2] at k1; cases k1
      exact k4
    · exact absurd rfl g2
section
variable {K : PySem.W.Frag} {Γ : Env} {te : TE} {tt : TT}
theorem ev_frz {d : PyData} (h : EvD K te (frz Γ) d) (hs : scal d = true := by rfl) : EvD K te Γ d := fun H0 G H σ s gh Q q => by
  obtain ⟨G2, g1, g2, s2, _⟩ := s.frz gh
  exact h H0 G2 H σ s2 g2 Q fun v G' H' e a => q v G H' (Ext.grow gh e.hh) (a.scal hs)
theorem et_frz {b : Bool} (h : EvT K tt (frz Γ) b) : EvT K tt Γ b := fun H0 G H σ s gh Q q => by
  obtain ⟨G2, g1, g2, s2, _⟩ := s.frz gh
  exact h H0 G2 H σ s2 g2 Q fun G' H' e => q G H' (Ext.grow gh e.hh)
theorem AtAll.scal {G G' : Hp} : ∀ {ds : List PyData} {vs : List V}, (∀ d ∈ ds, PD.scal d = true) → AtAll K G vs ds → AtAll K G' vs ds
  | [], _, _, h => by cases h; exact .nil
  | d :: ds, _, hs, h => by
    cases h with
    | cons h1 h2 => exact .cons (h1.scal (hs d List.mem_cons_self)) (AtAll.scal (fun e he => hs e (List.mem_cons_of_mem _ he)) h2)
theorem eo_frz {ds : List PyData} (h : EvO K te (frz Γ) ds) (hs : ∀ d ∈ ds, scal d = true) : EvO K te Γ ds := fun H0 G H σ s gh Q q => by
  obtain ⟨G2, g1, g2, s2, _⟩ := s.frz gh
  exact h H0 G2 H σ s2 g2 Q fun p vs G' H' e hp gp hp' ha => q p vs G H' (Ext.grow gh e.hh) hp (g1.free (e.gg.free gp)) hp' (ha.scal hs)
theorem scal_ints {ns : List Int} : ∀ d ∈ ns.map PyData.int, scal d = true := fun d h => by
  obtain ⟨n, _, rfl⟩ := List.mem_map.mp h
  rfl
end

/-! ### contracts -/
inductive Res
  | ok (d : PyData)
  /-- a new list -/
  | own (ds : List PyData)
  /-- an own error of the class at C -/
  | er (C : Addr)
def spOf (K : PySem.W.Frag) (S : List PyData → Res → Prop) : Sp := fun vs H Q E => ∃ (G : Hp) (ds : List PyData) (r : Res), Same G H ∧ AtAll K G vs ds ∧ S ds r ∧
  (∀ d, r = .ok d → ∀ v G' H', Ext G H G' H' → At K G' v d → Q v H') ∧
  (∀ es, r = .own es → ∀ p us G' H', Ext G H G' H' → H p = none → G' p = none → H' p = some (.lst us) → AtAll K G' us es → Q (.ref p) H') ∧
  (∀ C, r = .er C → ∀ H', Same H H' → E (.ref C) none H')
section
variable {K : PySem.W.Frag} {Γ : Env} {ta : TA} {S : List PyData → Res → Prop} {E E' : XK} {ds : List PyData}
theorem ev_call {d : PyData} (h : EvA K ta Γ ds) (hs : S ds (.ok d)) : EvD K (tCall (spOf K S) [] E ta) Γ d := fun H0 G H σ s gh Q q =>
  h H0 G H σ s gh _ fun vs G1 H1 e1 a1 => by
    show spOf K S (vs ++ []) H1 Q E
    rw [List.append_nil]
    exact ⟨G1, ds, .ok d, e1.gh, a1, hs, fun d' z v G' H' e a => by cases z; exact q v G' H' (e1.trans e) a, fun es z => (nomatch z), fun C z => (nomatch z)⟩
theorem eo_call {es : List PyData} (h : EvA K ta Γ ds) (hs : S ds (.own es)) : EvO K (tCall (spOf K S) [] E ta) Γ es := fun H0 G H σ s gh Q q =>
  h H0 G H σ s gh _ fun vs G1 H1 e1 a1 => by
    show spOf K S (vs ++ []) H1 Q E
    rw [List.append_nil]
    exact ⟨G1, ds, .own es, e1.gh, a1, hs, fun d' z => (nomatch z), fun es' z p us G' H' e hp gp hp' ha => by cases z; exact q p us G' H' (e1.trans e) (e1.hh.free hp) gp hp' ha, fun C z => (nomatch z)⟩
theorem ex_call {C : Addr} (h : EvA K ta Γ ds) (hs : S ds (.er C)) : EvX K E (tCall (spOf K S) [] E ta) Γ C := fun H0 G H σ s gh hE Q =>
  h H0 G H σ s gh _ fun vs G1 H1 e1 a1 => by
    show spOf K S (vs ++ []) H1 Q E
    rw [List.append_nil]
    exact ⟨G1, ds, .er C, e1.gh, a1, hs, fun d' z => (nomatch z), fun es' z => (nomatch z), fun C' z H' e => by cases z; exact hE H' (e1.hh.trans e)⟩
end

/-! ### statements -/
inductive Out
  | nx (Γ : Env)
  | rt (d : PyData)
  | ro (ds : List PyData)
  | bk (Γ : Env)
  | ct (Γ : Env)
  | ex (C : Addr)
/-- from G, known ahead, to G' and H' behind; H0 is what stood at the def's entry -/
structure Step (H0 G G' H' : Hp) : Prop where
  hh : Same H0 H'
  gg : Same G G'
  gh : Same G' H'
  fr : ∀ a, G a = none → H0 a ≠ none → G' a = none
theorem Step.trans {H0 G G1 H1 G2 H2 : Hp} (a : Step H0 G G1 H1) (b : Step H0 G1 G2 H2) : Step H0 G G2 H2 := ⟨b.hh, a.gg.trans b.gg, b.gh, fun x q n => b.fr x (a.fr x q n) n⟩
theorem Ext.step {H0 G H G' H' : Hp} (e : Ext G H G' H') (h : Same H0 H) : Step H0 G G' H' := ⟨h.trans e.hh, e.gg, e.gh, fun a q n => e.fr a q (some_up h n)⟩
structure Meets (K : PySem.W.Frag) (E : XK) (H0 G : Hp) (D : Ends) (P : Out → Prop) : Prop where
  nx : ∀ Γ' σ' G' H', P (.nx Γ') → Step H0 G G' H' → Sat K H0 G' H' σ' Γ' → D.nx σ' H'
  rt : ∀ d v G' H', P (.rt d) → Step H0 G G' H' → At K G' v d → D.rt v H'
  ro : ∀ ds p us G' H', P (.ro ds) → Step H0 G G' H' → H0 p = none → G' p = none → H' p = some (.lst us) → AtAll K G' us ds → D.rt (.ref p) H'
  bk : ∀ Γ' σ' G' H', P (.bk Γ') → Step H0 G G' H' → Sat K H0 G' H' σ' Γ' → D.bk σ' H'
  ct : ∀ Γ' σ' G' H', P (.ct Γ') → Step H0 G G' H' → Sat K H0 G' H' σ' Γ' → D.ct σ' H'
  ex : ∀ C H', P (.ex C) → Same H0 H' → E (.ref C) none H'
def HT (K : PySem.W.Frag) (E : XK) (t : TS) (Γ : Env) (P : Out → Prop) : Prop := ∀ (H0 G H : Hp) (σ : St) (D : Ends), Sat K H0 G H σ Γ → Same G H → Same H0 H → Meets K E H0 G D P → t D σ H
section
variable {K : PySem.W.Frag} {E : XK} {t u : TS} {Γ : Env} {P P' : Out → Prop} {te : TE} {tt : TT} {g : TG}
theorem Meets.step {H0 G G1 H1 : Hp} {D : Ends} (m : Meets K E H0 G D P) (s : Step H0 G G1 H1) : Meets K E H0 G1 D P :=
  ⟨fun Γ' σ' G' H' p q => m.nx Γ' σ' G' H' p (s.trans q), fun d v G' H' p q => m.rt d v G' H' p (s.trans q), fun ds q us G' H' p z => m.ro ds q us G' H' p (s.trans z), fun Γ' σ' G' H' p q => m.bk Γ' σ' G' H' p (s.trans q), fun Γ' σ' G' H' p q => m.ct Γ' σ' G' H' p (s.trans q), m.ex⟩
theorem ht_imp (h : HT K E t Γ P) (i : ∀ o, P o → P' o) : HT K E t Γ P' := fun H0 G H σ D s gh h0 m => h H0 G H σ D s gh h0
  ⟨fun Γ' σ' G' H' p => m.nx Γ' σ' G' H' (i _ p), fun d v G' H' p => m.rt d v G' H' (i _ p), fun ds q us G' H' p => m.ro ds q us G' H' (i _ p), fun Γ' σ' G' H' p => m.bk Γ' σ' G' H' (i _ p), fun Γ' σ' G' H' p => m.ct Γ' σ' G' H' (i _ p), fun C H' p => m.ex C H' (i _ p)⟩
/-- what is wanted ahead of u -/
def Then (K : PySem.W.Frag) (E : XK) (u : TS) (P : Out → Prop) : Out → Prop
  | .nx Γ' => HT K E u Γ' P
  | o => P o
theorem ht_seq (h : HT K E t Γ (Then K E u P)) : HT K E (tSeq t u) Γ P := fun H0 G H σ D s gh h0 m => h H0 G H σ { D with nx := u D } s gh h0
  ⟨fun Γ' σ' G' H' p q s' => p H0 G' H' σ' D s' q.gh q.hh (m.step q), fun d v G' H' p => m.rt d v G' H' p, fun ds q us G' H' p => m.ro ds q us G' H' p, fun Γ' σ' G' H' p => m.bk Γ' σ' G' H' p, fun Γ' σ' G' H' p => m.ct Γ' σ' G' H' p, fun C H' p => m.ex C H' p⟩
theorem ht_next (h : P (.nx Γ)) : HT K E tNext Γ P := fun H0 G H σ D s gh h0 m => m.nx Γ σ G H h ((Ext.refl gh).step h0) s
theorem ht_break (h : P (.bk Γ)) : HT K E tBreak Γ P := fun H0 G H σ D s gh h0 m => m.bk Γ σ G H h ((Ext.refl gh).step h0) s
theorem ht_cont (h : P (.ct Γ)) : HT K E tCont Γ P := fun H0 G H σ D s gh h0 m => m.ct Γ σ G H h ((Ext.refl gh).step h0) s
theorem ht_asg {i : Nat} {d : PyData} (h : EvD K te Γ d) (p : P (.nx (Γ.set i (.da d)))) : HT K E (tAsg te (gName i)) Γ P := fun H0 G H σ D s gh h0 m => h H0 G H σ s gh _ fun v G1 H1 e1 a1 =>
  m.nx _ _ G1 H1 p (e1.step h0) ((s.ext e1).setD a1)
/-- name = a new list, the slot's own -/
theorem ht_asgO {i : Nat} {ds : List PyData} (h : EvO K te Γ ds) (p : P (.nx (Γ.set i (.ow ds)))) : HT K E (tAsg te (gName i)) Γ P := fun H0 G H σ D s gh h0 m => h H0 G H σ s gh _ fun q vs G1 H1 e1 hq gq h1 a1 =>
  m.nx _ _ G1 H1 p (e1.step h0) ((s.ext e1).setO h1 gq (h0.free hq) a1 fun j dj z y => by
    obtain ⟨b, ws, k1, k2, _⟩ := s.ow j dj z
    rw [y] at k1; cases k1
    rw [hq] at k2; cases k2)
theorem ht_asgT {i j : Nat} {d e : PyData} (h : EvD K te Γ (.tuple [d, e])) (p : P (.nx ((Γ.set i (.da d)).set j (.da e)))) : HT K E (tAsg te (gTup K 2 (gCons (gName i) (gCons (gName j) gNil)))) Γ P :=
  fun H0 G H σ D s gh h0 m => h H0 G H σ s gh _ fun v G1 H1 e1 a1 => tg_tup2 H0 G1 H1 σ v (s.ext e1) e1.gh a1 _ fun σ' s' _ _ => m.nx _ _ G1 H1 p (e1.step h0) s'
theorem ht_drop {d : PyData} (h : EvD K te Γ d) (p : P (.nx Γ)) : HT K E (tDrop te) Γ P := fun H0 G H σ D s gh h0 m => h H0 G H σ s gh _ fun v G1 H1 e1 a1 => m.nx _ _ G1 H1 p (e1.step h0) (s.ext e1)
theorem ht_ret {d : PyData} (h : EvD K te Γ d) (p : P (.rt d)) : HT K E (tRet te) Γ P := fun H0 G H σ D s gh h0 m => h H0 G H σ s gh _ fun v G1 H1 e1 a1 => m.rt d v G1 H1 p (e1.step h0) a1
theorem ht_retO {ds : List PyData} (h : EvO K te Γ ds) (p : P (.ro ds)) : HT K E (tRet te) Γ P := fun H0 G H σ D s gh h0 m => h H0 G H σ s gh _ fun q vs G1 H1 e1 hq gq h1 a1 => m.ro ds q vs G1 H1 p (e1.step h0) (h0.free hq) gq h1 a1
theorem ht_retN (p : P (.rt .none)) : HT K E tRetN Γ P := fun H0 G H σ D s gh h0 m => m.rt .none .non G H p ((Ext.refl gh).step h0) .non
/-- return of a slot's own list -/
theorem ht_retS {i : Nat} {ds : List PyData} (h : Γ[i]? = some (.ow ds)) (p : P (.ro ds)) : HT K E (tRet (tVar i)) Γ P := fun H0 G H σ D s gh h0 m => by
  obtain ⟨q, vs, h1, h2, h3, h4, h5⟩ := s.ow i ds h
  exact ⟨_, h1, m.ro ds q vs G H p ((Ext.refl gh).step h0) h4 h3 h2 h5⟩
theorem ht_dropX {C : Addr} (h : EvX K E te Γ C) (p : P (.ex C)) : HT K E (tDrop te) Γ P := fun H0 G H σ D s gh h0 m => h H0 G H σ s gh (fun H' e => m.ex C H' p (h0.trans e)) _
theorem ht_retX {C : Addr} (h : EvX K E te Γ C) (p : P (.ex C)) : HT K E (tRet te) Γ P := fun H0 G H σ D s gh h0 m => h H0 G H σ s gh (fun H' e => m.ex C H' p (h0.trans e)) _
theorem ht_asgX {C : Addr} (h : EvX K E te Γ C) (p : P (.ex C)) : HT K E (tAsg te g) Γ P := fun H0 G H σ D s gh h0 m => h H0 G H σ s gh (fun H' e => m.ex C H' p (h0.trans e)) _
theorem ht_if {b : Bool} (h : EvT K tt Γ b) (h1 : b = true → HT K E t Γ P) (h2 : b = false → HT K E u Γ P) : HT K E (tIfS tt t u) Γ P := fun H0 G H σ D s gh h0 m => h H0 G H σ s gh _ fun G1 H1 e1 => by
  cases b with
  | true => exact h1 rfl H0 G1 H1 σ D (s.ext e1) e1.gh (h0.trans e1.hh) (m.step (e1.step h0))
  | false => exact h2 rfl H0 G1 H1 σ D (s.ext e1) e1.gh (h0.trans e1.hh) (m.step (e1.step h0))
/-- raise C('..') -/
def tRaiseC (C : Addr) (E : XK) : TS := fun _ _ H => E (.ref C) none H
theorem ht_raise {C : Addr} (p : P (.ex C)) : HT K E (tRaiseC C E) Γ P := fun H0 G H σ D s gh h0 m => m.ex C H p h0
theorem ht_weak {Γ' : Env} (h : HT K E t Γ' P) (hl : Γ'.length = Γ.length) (w : ∀ (i : Nat) (x y : Sl), Γ[i]? = some x → Γ'[i]? = some y → Wk x y) : HT K E t Γ P := fun H0 G H σ D s gh h0 m => h H0 G H σ D (s.weak hl w) gh h0 m
theorem Sat.frzAt {H0 G H : Hp} {σ : St} (s : Sat K H0 G H σ Γ) {i : Nat} {ds : List PyData} {p : Addr} {vs : List V} (hi : Γ[i]? = some (.ow ds)) (k1 : σ[i]? = some (some (.ref p))) (k2 : H p = some (.lst vs)) (k3 : G p = none) (k5 : AtAll K G vs ds) :
    Sat K H0 (upd G p (.lst vs)) H σ (Γ.set i (.da (.list ds))) := by
  have hil : i < Γ.length := (List.getElem?_eq_some_iff.mp hi).1
  have up : Same G (upd G p (.lst vs)) := same_new k3
  have fo : ∀ {m : Nat} {ks : List Int}, (Γ.set i (.da (.list ds)))[m]? = some (.od ks) → Γ[m]? = some (.od ks) := fun {m ks} q => by
    by_cases z : i = m
    · subst z; rw [List.getElem?_set_self hil] at q; cases q
    · rwa [List.getElem?_set_ne z] at q
  have rf := s.rfSet' (i := i) (x := .da (.list ds)) (fun _ _ z => nomatch z)
  refine ⟨by simp [s.len], fun j d q => ?_, fun j es q => ?_, fun j k dj dk b q1 q2 => ?_, fun j ks q => ?_, fun j k di dj b q1 q2 => s.nd j k di dj b (fo q1) (fo q2), fun j v o q => ⟨(rf j v o q).1, fun d z => ((rf j v o q).2 d z).up up⟩⟩
  · by_cases z : i = j
    · subst z; rw [List.getElem?_set_self hil] at q; cases q
      exact ⟨_, k1, .lst upd_same (k5.up up)⟩
    · rw [List.getElem?_set_ne z] at q
      obtain ⟨v, h1, h2⟩ := s.da j d q
      exact ⟨v, h1, h2.up up⟩
  · by_cases z : i = j
    · subst z; rw [List.getElem?_set_self hil] at q; cases q
    · rw [List.getElem?_set_ne z] at q
      obtain ⟨b, ws, h1, h2, h3, h4, h5⟩ := s.ow j es q
      have nb : b ≠ p := fun y => by subst y; exact z (s.ne i j ds es b hi q k1 h1)
      exact ⟨b, ws, h1, h2, by rw [upd_ne nb]; exact h3, h4, h5.up up⟩
  · have f : ∀ {m : Nat} {dm : List PyData}, (Γ.set i (.da (.list ds)))[m]? = some (.ow dm) → Γ[m]? = some (.ow dm) := fun {m dm} q => by
      by_cases z : i = m
      · subst z; rw [List.getElem?_set_self hil] at q; cases q
      · rwa [List.getElem?_set_ne z] at q
    exact s.ne j k dj dk b (f q1) (f q2)
  · obtain ⟨b, kvs, h1, h2, h3, h4⟩ := s.od j ks (fo q)
    have nb : b ≠ p := fun y => by subst y; rw [k2] at h2; cases h2
    exact ⟨b, kvs, h1, h2, by rw [upd_ne nb]; exact h3, h4⟩
/-- a slot's own list is data from now on -/
theorem ht_frz {i : Nat} {ds : List PyData} (hi : Γ[i]? = some (.ow ds)) (h : HT K E t (Γ.set i (.da (.list ds))) P) : HT K E t Γ P := fun H0 G H σ D s gh h0 m => by
  obtain ⟨p, vs, k1, k2, k3, k4, k5⟩ := s.ow i ds hi
  have g2 : Same (upd G p (.lst vs)) H := fun b x e => by
    by_cases z : b = p
    · subst z; rw [upd_same] at e; cases e; exact k2
    · rw [upd_ne z] at e; exact gh b x e
  exact h H0 (upd G p (.lst vs)) H σ D (s.frzAt hi k1 k2 k3 k5) g2 h0 (m.step ⟨h0, same_new k3, g2, fun a q n => by
    have z : a ≠ p := fun z => n (by rw [z]; exact k4)
    rw [upd_ne z]; exact q⟩)
/-- xs.append(e), xs the slot's own -/
theorem ht_app {i : Nat} {ds : List PyData} {d : PyData} (hi : Γ[i]? = some (.ow ds)) (h : EvD K te Γ d) (hz : ds.length < 100000) (p : P (.nx (Γ.set i (.ow (ds ++ [d]))))) :
    HT K E (tDrop (tBM K "list" rAppend (tVar i) (tCons te tNil))) Γ P := fun H0 G H σ D s gh h0 m => by
  obtain ⟨q, vs, k1, k2, k3, k4, k5⟩ := s.ow i ds hi
  refine ⟨_, k1, .inl ⟨rfl, vs, SqL.of k2⟩, ?_⟩
  refine h H0 G H σ s gh _ fun v G1 H1 e1 a1 => ?_
  have q1 : H1 q = some (.lst vs) := e1.hh _ _ k2
  have g1 : G1 q = none := e1.fr q k3 (by rw [k2]; exact fun z => nomatch z)
  refine ⟨q, vs, v, rfl, rfl, q1, by rw [k5.length]; exact Nat.lt_trans hz (by decide), ?_⟩
  refine m.nx _ _ G1 _ p ⟨fun b x z => ?_, e1.gg, fun b x z => ?_, fun a z n => e1.fr a z (some_up h0 n)⟩ ((s.ext e1).write hi k1 ((k5.up e1.gg).snoc a1))
  · rw [upd_ne (ne_of_none z k4)]; exact e1.hh _ _ (h0 _ _ z)
  · rw [upd_ne (ne_of_none z g1)]; exact e1.gh _ _ z
/-- xs[k] = e, xs the slot's own -/
theorem ixN_of {n : Nat} {k : Int} (h0 : 0 ≤ k) (h : k < n) : ixN n k = some k.toNat := by
  unfold ixN; rw [if_pos h0, if_pos h]
theorem ht_set {i : Nat} {ds : List PyData} {d : PyData} {k : Int} {ti : TE} (hi : Γ[i]? = some (.ow ds)) (h : EvD K te Γ d) (hk : EvD K ti Γ (.int k)) (k0 : 0 ≤ k) (kl : k < ds.length) (p : P (.nx (Γ.set i (.ow (ds.set k.toNat d))))) :
    HT K E (tAsg te (gSub (tVar i) ti rSetL)) Γ P := fun H0 G H σ D s gh h0 m => by
  obtain ⟨q, vs, k1, k2, k3, k4, k5⟩ := s.ow i ds hi
  refine h H0 G H σ s gh _ fun v G1 H1 e1 a1 => ⟨_, k1, ?_⟩
  refine hk H0 G1 H1 σ (s.ext e1) e1.gh _ fun w G2 H2 e2 a2 => ?_
  cases a2
  have e12 := e1.trans e2
  have q1 : H2 q = some (.lst vs) := e12.hh _ _ k2
  have g1 : G2 q = none := e12.fr q k3 (by rw [k2]; exact fun z => nomatch z)
  refine ⟨q, vs, k, k.toNat, rfl, rfl, q1, by rw [k5.length]; exact ixN_of k0 kl, ?_⟩
  refine m.nx _ _ G2 _ p ⟨fun b x z => ?_, e12.gg, fun b x z => ?_, fun a z n => e12.fr a z (some_up h0 n)⟩ ((s.ext e12).write hi k1 ((k5.up e12.gg).set (a1.up e2.gg) _))
  · rw [upd_ne (ne_of_none z k4)]; exact e12.hh _ _ (h0 _ _ z)
  · rw [upd_ne (ne_of_none z g1)]; exact e12.gh _ _ z

/-- name = {} -/
theorem ht_asgK {i : Nat} (p : P (.nx (Γ.set i (.od [])))) : HT K E (tAsg tDNewK (gName i)) Γ P := fun H0 G H σ D s gh h0 m => fun q hq =>
  have e1 : Ext G H G (upd H q (.dK [])) := Ext.own gh hq
  m.nx _ _ G _ p (e1.step h0) ((s.ext e1).setK upd_same (gh.free hq) (h0.free hq) fun j dj z y => by
    obtain ⟨b, ws, k1, k2, _⟩ := s.od j dj z
    rw [y] at k1; cases k1
    rw [hq] at k2; cases k2)
/-- k in d, d the slot's own dict -/
theorem ev_din {i : Nat} {ks : List Int} {k : Int} (hi : Γ[i]? = some (.od ks)) (h : EvD K te Γ (.int k)) : EvD K (tDIn te (tVar i)) Γ (.bool (decide (k ∈ ks))) := fun H0 G H σ s gh Q q =>
  h H0 G H σ s gh _ fun v G1 H1 e1 a1 => by
    cases a1
    obtain ⟨b, kvs, k1, k2, k3, k4, k5, k6⟩ := (s.ext e1).od i ks hi
    refine ⟨_, k1, b, _, rfl, DGet.k (k := Sum.inl k) k2, ?_⟩
    rw [k6]
    exact q _ G1 H1 e1 (.bl _)
/-- d[k] = v, a new key -/
theorem ht_put {i : Nat} {ks : List Int} {k : Int} {d : PyData} {ti : TE} (hi : Γ[i]? = some (.od ks)) (h : EvD K te Γ d) (hk : EvD K ti Γ (.int k)) (nk : k ∉ ks) (hz : ks.length ≤ 100000) (p : P (.nx (Γ.set i (.od (ks ++ [k]))))) :
    HT K E (sDPut (tVar i) ti te) Γ P := fun H0 G H σ D s gh h0 m => by
  refine h H0 G H σ s gh _ fun v G1 H1 e1 a1 => ?_
  obtain ⟨b, kvs, k1, k2, k3, k4, k5, k6⟩ := (s.ext e1).od i ks hi
  refine ⟨_, k1, ?_⟩
  refine hk H0 G1 H1 σ (s.ext e1) e1.gh _ fun w G2 H2 e2 a2 => ?_
  cases a2
  have e12 := e1.trans e2
  have q1 : H2 b = some (.dK kvs) := e2.hh _ _ k2
  have g1 : G2 b = none := e2.fr b k3 (by rw [k2]; exact fun z => nomatch z)
  refine ⟨b, _, rfl, DPut.k (k := Sum.inl k) q1 (Nat.lt_of_le_of_lt (Nat.le_trans k5 hz) (by decide)), ?_⟩
  refine m.nx _ _ G2 _ p ⟨fun c x z => ?_, e12.gg, fun c x z => ?_, fun a z n => e12.fr a z (some_up h0 n)⟩ ((s.ext e12).put hi k1 q1 nk)
  · rw [upd_ne (ne_of_none z k4)]; exact e12.hh _ _ (h0 _ _ z)
  · rw [upd_ne (ne_of_none z g1)]; exact e12.gh _ _ z
/-- {} as data -/
theorem ev_dnew : EvD K tDNewK Γ (.dict []) := fun H0 G H σ s gh Q q => fun p hp => q _ _ _ (Ext.new gh hp) (.dic upd_same)

/-! ### lent for a while -/
/-- the slots as they stand, each with the very value that it holds -/
inductive Fix1 : Sl → Sl → Prop
  | no : Fix1 .no .no
  | da (v : V) (d : PyData) : Fix1 (.da d) (.fx v (some d))
  | ow (p : Addr) (ds : List PyData) : Fix1 (.ow ds) (.fx (.ref p) (some (.list ds)))
  | fx (v : V) (o : Option PyData) : Fix1 (.fx v o) (.fx v o)
inductive Fixed : Env → Env → Prop
  | nil : Fixed [] []
  | cons {x y : Sl} {Γ Γ' : Env} : Fix1 x y → Fixed Γ Γ' → Fixed (x :: Γ) (y :: Γ')
theorem Fixed.get {Γ Γf : Env} (h : Fixed Γ Γf) : ∀ {j : Nat} {x : Sl}, Γ[j]? = some x → ∃ y, Γf[j]? = some y ∧ Fix1 x y := by
  induction h with
  | nil => intro j x q; simp at q
  | cons h1 _ ih =>
    intro j x q
    cases j with
    | zero => simp at q; subst q; exact ⟨_, rfl, h1⟩
    | succ j => simp at q; obtain ⟨y, e, f⟩ := ih q; exact ⟨y, by simpa using e, f⟩
theorem Fixed.len {Γ Γf : Env} (h : Fixed Γ Γf) : Γf.length = Γ.length := by
  induction h with
  | nil => rfl
  | cons _ _ ih => simp [ih]
/-- a fixed slot's datum -/
theorem ev_fix {K : PySem.W.Frag} {Γ : Env} {i : Nat} {v : V} {d : PyData} (h : Γ[i]? = some (.fx v (some d))) : EvD K (tVar i) Γ d := fun H0 G H σ s gh Q q => by
  obtain ⟨h1, h2⟩ := s.fx i v _ h
  exact ⟨v, h1, q v G H (Ext.refl gh) (h2 d rfl)⟩
/-- what is wanted behind a statement that was run on the lent slots -/
def Loan (Γ Γf : Env) (P : Out → Prop) : Out → Prop
  | .nx Γ' => Γ'.length = Γ.length ∧ ∃ Γ2 : Env, Γ2.length = Γ.length ∧ (∀ (j : Nat) (x : Sl), Γ2[j]? = some x → x = .no ∨ (Γ[j]? = some x ∧ Γ'[j]? = Γf[j]?)) ∧ P (.nx Γ2)
  | .rt d => scal d = true ∧ P (.rt d)
  | .ex C => P (.ex C)
  | _ => False
/-- the values of the slots, written in -/
def fixE : Env → St → Env
  | .da d :: Γ, some v :: σ => .fx v (some d) :: fixE Γ σ
  | .ow ds :: Γ, some v :: σ => .fx v (some (.list ds)) :: fixE Γ σ
  | .fx v o :: Γ, _ :: σ => .fx v o :: fixE Γ σ
  | _ :: Γ, _ :: σ => .no :: fixE Γ σ
  | _, _ => []
theorem fixE_fixed : ∀ {Γ : Env} {σ : St}, σ.length = Γ.length → (∀ (i : Nat) (ks : List Int), Γ[i]? ≠ some (.od ks)) → (∀ (i : Nat) (d : PyData), Γ[i]? = some (.da d) → ∃ v, σ[i]? = some (some v)) →
    (∀ (i : Nat) (ds : List PyData), Γ[i]? = some (.ow ds) → ∃ p, σ[i]? = some (some (.ref p))) → Fixed Γ (fixE Γ σ)
  | [], σ, h, _, _, _ => by
    have : σ = [] := List.length_eq_zero_iff.mp h
    subst this; exact .nil
  | x :: Γ, [], h, _, _, _ => by simp at h
  | x :: Γ, o :: σ, h, ho, hd, hw => by
    have ih := fixE_fixed (Γ := Γ) (σ := σ) (by simpa using h) (fun i ks q => ho (i + 1) ks (by simpa using q)) (fun i d q => by simpa using hd (i + 1) d (by simpa using q)) (fun i ds q => by simpa using hw (i + 1) ds (by simpa using q))
    cases x with
    | no => exact .cons .no ih
    | da d =>
      obtain ⟨v, e⟩ := hd 0 d rfl
      have e : o = some v := by simpa using e
      subst e
      exact .cons (.da v d) ih
    | ow ds =>
      obtain ⟨p, e⟩ := hw 0 ds rfl
      have e : o = some (.ref p) := by simpa using e
      subst e
      exact .cons (.ow p ds) ih
    | od ks => exact absurd rfl (ho 0 ks)
    | fx v o' => exact .cons (.fx v o') ih
theorem fixE_get : ∀ {Γ : Env} {σ : St} {i : Nat} {x : Sl}, (fixE Γ σ)[i]? = some x → x = .no ∨ ∃ v o, x = .fx v o ∧ (Γ[i]? = some (.fx v o) ∨ (σ[i]? = some (some v) ∧ ∃ d, o = some d ∧ (Γ[i]? = some (.da d) ∨ ∃ ds, d = .list ds ∧ Γ[i]? = some (.ow ds))))
  | [], σ, i, x, h => by simp [fixE] at h
  | y :: Γ, [], i, x, h => by cases y <;> simp [fixE] at h
  | y :: Γ, t :: σ, i, x, h => by
    cases i with
    | succ i =>
      have h' : (fixE Γ σ)[i]? = some x := by
        cases y <;> cases t <;> simpa [fixE] using h
      simpa using fixE_get h'
    | zero =>
      cases y with
      | no => cases t <;> (left; simpa [fixE] using h.symm)
      | od ks => cases t <;> (left; simpa [fixE] using h.symm)
      | fx v o => right; cases t <;> exact ⟨v, o, by simpa [fixE] using h.symm, .inl rfl⟩
      | da d =>
        cases t with
        | none => left; simpa [fixE] using h.symm
        | some v => right; exact ⟨v, some d, by simpa [fixE] using h.symm, .inr ⟨rfl, d, rfl, .inl rfl⟩⟩
      | ow ds =>
        cases t with
        | none => left; simpa [fixE] using h.symm
        | some v => right; exact ⟨v, some (.list ds), by simpa [fixE] using h.symm, .inr ⟨rfl, _, rfl, .inr ⟨ds, rfl, rfl⟩⟩⟩
theorem ht_loan (ho : ∀ (i : Nat) (ks : List Int), Γ[i]? ≠ some (.od ks)) (h : ∀ Γf, Fixed Γ Γf → HT K E t Γf (Loan Γ Γf P)) : HT K E t Γ P := fun H0 G H σ D s gh h0 m => by
  obtain ⟨G2, g1, g2, s2, new⟩ := s.frz gh
  have fz : ∀ {i : Nat} {x : Sl}, Γ[i]? = some x → (PD.frz Γ)[i]? = some (frz1 x) := fun {i x} q => by unfold PD.frz; rw [List.getElem?_map, q]; rfl
  have fd := fixE_fixed (Γ := Γ) (σ := σ) s.len ho (fun i d q => by obtain ⟨v, e, _⟩ := s.da i d q; exact ⟨v, e⟩) (fun i ds q => by obtain ⟨p, vs, e, _⟩ := s.ow i ds q; exact ⟨p, e⟩)
  have fl := fd.len
  have sat : Sat K H G2 H σ (fixE Γ σ) := by
    refine ⟨by rw [fl]; exact s.len, fun i d q => ?_, fun i ds q => ?_, fun i j di dj p q1 q2 => ?_, fun i ks q => ?_, fun i j di dj p q1 q2 => ?_, fun i v o q => ?_⟩
    · rcases fixE_get q with e | ⟨v, o, e, _⟩ <;> cases e
    · rcases fixE_get q with e | ⟨v, o, e, _⟩ <;> cases e
    · rcases fixE_get q1 with e | ⟨v, o, e, _⟩ <;> cases e
    · rcases fixE_get q with e | ⟨v, o, e, _⟩ <;> cases e
    · rcases fixE_get q1 with e | ⟨v, o, e, _⟩ <;> cases e
    · rcases fixE_get q with e | ⟨v', o', e, hh⟩
      · cases e
      · cases e
        rcases hh with hh | ⟨hv, d, rfl, hh | ⟨ds, rfl, hh⟩⟩
        · exact ⟨(s.fx i v o hh).1, fun d z => ((s.fx i v o hh).2 d z).up g1⟩
        · refine ⟨hv, fun d' z => ?_⟩
          cases z
          obtain ⟨v2, e2, a2⟩ := s.da i d hh
          rw [hv] at e2; cases e2
          exact a2.up g1
        · refine ⟨hv, fun d' z => ?_⟩
          cases z
          obtain ⟨v2, e2, a2⟩ := s2.da i _ (fz hh)
          rw [hv] at e2; cases e2
          exact a2
  have gH : ∀ {H' : Hp}, Same H H' → Step H0 G G H' := fun e => ⟨h0.trans e, Same.refl G, gh.trans e, fun _ q _ => q⟩
  refine h _ fd H G2 H σ D sat g2 (Same.refl H) ⟨fun Γ' σ' G' H' p st s' => ?_, fun d v G' H' p st a => m.rt d v G H' p.2 (gH st.hh) (a.scal p.1), fun _ _ _ _ _ p => False.elim p, fun _ _ _ _ p => False.elim p, fun _ _ _ _ p => False.elim p, fun C H' p e => m.ex C H' p (h0.trans e)⟩
  obtain ⟨hl', Γ2, hl, hx, hp⟩ := p
  have key : ∀ {j : Nat} {x : Sl}, Γ2[j]? = some x → x ≠ .no → Γ[j]? = some x ∧ σ'[j]? = σ[j]? := fun {j x} q n => by
    rcases hx j x q with e | ⟨e1, e2⟩
    · exact absurd e n
    · refine ⟨e1, ?_⟩
      obtain ⟨y, hy, fx⟩ := fd.get e1
      rw [hy] at e2
      cases fx with
      | no => exact absurd rfl n
      | da v d => rw [(s'.fx j _ _ e2).1, (sat.fx j _ _ hy).1]
      | ow p ds => rw [(s'.fx j _ _ e2).1, (sat.fx j _ _ hy).1]
      | fx v o => rw [(s'.fx j _ _ e2).1, (sat.fx j _ _ hy).1]
  refine m.nx Γ2 σ' G H' hp (gH st.hh) ⟨by rw [s'.len, hl', hl], fun i d q => ?_, fun i ds q => ?_, fun i j di dj p q1 q2 r1 r2 => ?_, fun i ks q => ?_, fun i j di dj p q1 q2 => ?_, fun i v o q => ?_⟩
  · obtain ⟨e1, e2⟩ := key q (fun z => nomatch z)
    rw [e2]
    exact s.da i d e1
  · obtain ⟨e1, e2⟩ := key q (fun z => nomatch z)
    obtain ⟨p, vs, k1, k2, k3⟩ := s.ow i ds e1
    rw [e2]
    exact ⟨p, vs, k1, st.hh _ _ k2, k3⟩
  · obtain ⟨e1, e2⟩ := key q1 (fun z => nomatch z)
    obtain ⟨e3, e4⟩ := key q2 (fun z => nomatch z)
    rw [e2] at r1
    rw [e4] at r2
    exact s.ne i j di dj p e1 e3 r1 r2
  · obtain ⟨e1, e2⟩ := key q (fun z => nomatch z)
    exact absurd e1 (ho i ks)
  · obtain ⟨e1, e2⟩ := key q1 (fun z => nomatch z)
    exact absurd e1 (ho i di)
  · obtain ⟨e1, e2⟩ := key q (fun z => nomatch z)
    rw [e2]
    exact s.fx i v o e1
/-! ### loops -/
def Turn1 (I : Nat → Env → Prop) (i : Nat) (P : Out → Prop) : Out → Prop
  | .nx Γ' => I (i + 1) Γ'
  | .ct Γ' => I (i + 1) Γ'
  | .bk Γ' => P (.nx Γ')
  | .rt d => P (.rt d)
  | .ro ds => P (.ro ds)
  | .ex C => P (.ex C)
def Pw (K : PySem.W.Frag) (H0 G1 : Hp) (I : Nat → Env → Prop) (i : Nat) (σ : St) (H : Hp) : Prop := ∃ G Γ', Step H0 G1 G H ∧ Sat K H0 G H σ Γ' ∧ I i Γ'
theorem turn_meets {H0 G1 G H : Hp} {D : Ends} {I : Nat → Env → Prop} {i : Nat} (m : Meets K E H0 G1 D P) (st : Step H0 G1 G H) :
    Meets K E H0 G { D with nx := Pw K H0 G1 I (i + 1), ct := Pw K H0 G1 I (i + 1), bk := D.nx } (Turn1 I i P) :=
  ⟨fun Γ' σ' G' H' p q s => ⟨G', Γ', st.trans q, s, p⟩, fun d v G' H' p q => m.rt d v G' H' p (st.trans q), fun ds q us G' H' p z => m.ro ds q us G' H' p (st.trans z), fun Γ' σ' G' H' p q s => m.nx Γ' σ' G' H' p (st.trans q) s,
    fun Γ' σ' G' H' p q s => ⟨G', Γ', st.trans q, s, p⟩, fun C H' p q => m.ex C H' p q⟩
/-- for j in range(n) -/
theorem ht_forR {ta : TA} {j : Nat} {n : Int} (I : Nat → Env → Prop) (h : EvA K ta Γ [.int n]) (hn : 0 ≤ n ∧ n ≤ 100000) (h0 : I 0 Γ)
    (hs : ∀ (i : Nat) (Γ' : Env), (i : Int) < n → I i Γ' → HT K E t (Γ'.set j (.da (.int (i : Int)))) (Turn1 I i P)) (hd : ∀ Γ', I n.toNat Γ' → P (.nx Γ')) : HT K E (tFor (iRng1 ta) (gName j) t) Γ P :=
  fun H0 G H σ D s gh hh m => h H0 G H σ s gh _ fun us G1 H1 e1 a1 => by
    have eu : us = [.int n] := (show AtAll K G1 us ([n].map .int) from a1).ints
    subst eu
    have m1 := m.step (e1.step hh)
    refine ⟨n, rfl, by omega, by omega, for_range (lo := 0) (n := n.toNat) (Pw K H0 G1 I) ⟨G1, Γ, (Ext.refl e1.gh).step (hh.trans e1.hh), s.ext e1, h0⟩ (fun i σ' H' hi p => ?_) (fun σ' H' p => ?_)⟩
    · obtain ⟨G', Γ', st, s', ii⟩ := p
      have e0 : (0 : Int) + (i : Int) = (i : Int) := Int.zero_add _
      show t _ (σ'.set j (some (.int ((0 : Int) + (i : Int))))) H'
      rw [e0]
      exact hs i Γ' (by omega) ii H0 G' H' _ _ (s'.setD (.int _)) st.gh st.hh (turn_meets m1 st)
    · obtain ⟨G', Γ', st, s', ii⟩ := p
      exact m1.nx Γ' σ' G' H' (hd Γ' ii) st s'
/-- for j in range(lo, n) -/
theorem ht_forR2 {ta : TA} {j : Nat} {lo n : Int} (I : Nat → Env → Prop) (h : EvA K ta Γ [.int lo, .int n]) (hn : -100000 ≤ lo ∧ lo ≤ 100000 ∧ -100000 ≤ n ∧ n ≤ 100000) (h0 : I 0 Γ)
    (hs : ∀ (i : Nat) (Γ' : Env), lo + (i : Int) < n → I i Γ' → HT K E t (Γ'.set j (.da (.int (lo + (i : Int))))) (Turn1 I i P)) (hd : ∀ Γ', I (n - lo).toNat Γ' → P (.nx Γ')) : HT K E (tFor (iRng2 ta) (gName j) t) Γ P :=
  fun H0 G H σ D s gh hh m => h H0 G H σ s gh _ fun us G1 H1 e1 a1 => by
    have eu : us = [.int lo, .int n] := (show AtAll K G1 us ([lo, n].map .int) from a1).ints
    subst eu
    have m1 := m.step (e1.step hh)
    refine ⟨lo, n, rfl, ⟨by omega, by omega, by omega, by omega⟩, for_range (lo := lo) (n := (n - lo).toNat) (Pw K H0 G1 I) ⟨G1, Γ, (Ext.refl e1.gh).step (hh.trans e1.hh), s.ext e1, h0⟩ (fun i σ' H' hi p => ?_) (fun σ' H' p => ?_)⟩
    · obtain ⟨G', Γ', st, s', ii⟩ := p
      exact hs i Γ' (by omega) ii H0 G' H' _ _ (s'.setD (.int _)) st.gh st.hh (turn_meets m1 st)
    · obtain ⟨G', Γ', st, s', ii⟩ := p
      exact m1.nx Γ' σ' G' H' (hd Γ' ii) st s'
/-- for target in a list -/
theorem ht_forL {α : Type} (xs : List α) (emb : α → PyData) (Γx : Env → α → Env) {ws : List Nat} (I : Nat → Env → Prop) (h : EvD K te Γ (.list (xs.map emb))) (h0 : I 0 Γ)
    (hg : ∀ (Γ' : Env) (x : α), x ∈ xs → TgD K g (emb x) Γ' (Γx Γ' x) ws) (hs : ∀ (i : Nat) (x : α) (Γ' : Env), xs[i]? = some x → I i Γ' → HT K E t (Γx Γ' x) (Turn1 I i P)) (hd : ∀ Γ', I xs.length Γ' → P (.nx Γ')) :
    HT K E (tFor (iList K te) g t) Γ P :=
  fun H0 G H σ D s gh hh m => h H0 G H σ s gh _ fun v G1 H1 e1 a1 => by
    cases a1 with
    | lst l1 l2 =>
      rename_i l us
      have m1 := m.step (e1.step hh)
      have hl : us.length = xs.length := by rw [l2.length, List.length_map]
      refine ⟨l, rfl, ⟨us, SqL.of (e1.gh _ _ l1)⟩, for_list (xs := us) (Pw K H0 G1 I) ⟨G1, Γ, (Ext.refl e1.gh).step (hh.trans e1.hh), s.ext e1, h0⟩ (fun i σ' H' _ p => ?_) (fun i v σ' H' hi p => ?_) (fun σ' H' p => ?_)⟩
      · obtain ⟨G', Γ', st, s', ii⟩ := p
        exact SqL.of (st.gh _ _ (st.gg _ _ l1))
      · obtain ⟨G', Γ', st, s', ii⟩ := p
        obtain ⟨d, hd', ad⟩ := l2.getV hi
        rw [List.getElem?_map] at hd'
        obtain ⟨x, hx, rfl⟩ := Option.map_eq_some_iff.mp hd'
        exact hg Γ' x (List.mem_of_getElem? hx) H0 G' H' σ' v s' st.gh (ad.up st.gg) _ fun σ2 s2 _ _ => hs i x Γ' hx ii H0 G' H' σ2 _ s2 st.gh st.hh (turn_meets m1 st)
      · obtain ⟨G', Γ', st, s', ii⟩ := p
        rw [hl] at ii
        exact m1.nx Γ' σ' G' H' (hd Γ' ii) st s'
theorem ht_forN {α : Type} {j : Nat} (xs : List α) (emb : α → PyData) (I : Nat → Env → Prop) (h : EvD K te Γ (.list (xs.map emb))) (h0 : I 0 Γ)
    (hs : ∀ (i : Nat) (x : α) (Γ' : Env), xs[i]? = some x → I i Γ' → HT K E t (Γ'.set j (.da (emb x))) (Turn1 I i P)) (hd : ∀ Γ', I xs.length Γ' → P (.nx Γ')) : HT K E (tFor (iList K te) (gName j) t) Γ P :=
  ht_forL xs emb (fun Γ' x => Γ'.set j (.da (emb x))) I h h0 (fun Γ' x _ => tg_name) hs hd
/-- while, by a word that falls -/
def TurnW (I : Nat → Env → Prop) (m : Nat) (P : Out → Prop) : Out → Prop
  | .nx Γ' => ∃ m', m' < m ∧ I m' Γ'
  | .ct Γ' => ∃ m', m' < m ∧ I m' Γ'
  | .bk Γ' => P (.nx Γ')
  | .rt d => P (.rt d)
  | .ro ds => P (.ro ds)
  | .ex C => P (.ex C)
theorem ht_while (I : Nat → Env → Prop) {m0 : Nat} (h0 : I m0 Γ) (hs : ∀ (m : Nat) (Γ' : Env), I m Γ' → ∃ b, EvT K tt Γ' b ∧ (b = true → HT K E t Γ' (TurnW I m P)) ∧ (b = false → P (.nx Γ'))) : HT K E (tWhile tt t) Γ P :=
  fun H0 G H σ D s gh hh m => by
    refine ⟨fun n σ' H' => ∃ G' Γ', Step H0 G G' H' ∧ Sat K H0 G' H' σ' Γ' ∧ I n Γ', ⟨m0, G, Γ, (Ext.refl gh).step hh, s, h0⟩, ?_⟩
    rintro n σ' H' ⟨G', Γ', st, s', ii⟩
    obtain ⟨b, hb, h1, h2⟩ := hs n Γ' ii
    refine hb H0 G' H' σ' s' st.gh _ fun G2 H2 e2 => ?_
    have st2 : Step H0 G G2 H2 := st.trans (e2.step st.hh)
    cases b with
    | false =>
      show D.nx σ' H2
      exact m.nx Γ' σ' G2 H2 (h2 rfl) st2 (s'.ext e2)
    | true =>
      refine ⟨fun σ3 H3 => ∃ m', m' < n ∧ ∃ G3 Γ3, Step H0 G G3 H3 ∧ Sat K H0 G3 H3 σ3 Γ3 ∧ I m' Γ3, fun σ3 H3 ⟨m', hm, G3, Γ3, z⟩ => ⟨m', hm, G3, Γ3, z⟩, ?_⟩
      refine h1 rfl H0 G2 H2 σ' _ (s'.ext e2) e2.gh st2.hh ⟨fun Γ3 σ3 G3 H3 p q s3 => ?_, fun d v G3 H3 p q => m.rt d v G3 H3 p (st2.trans q), fun ds q us G3 H3 p z => m.ro ds q us G3 H3 p (st2.trans z), fun Γ3 σ3 G3 H3 p q s3 => m.nx Γ3 σ3 G3 H3 p (st2.trans q) s3, fun Γ3 σ3 G3 H3 p q s3 => ?_, fun C H3 p q => m.ex C H3 p q⟩
      · obtain ⟨m', hm, i'⟩ := p
        exact ⟨m', hm, G3, Γ3, st2.trans q, s3, i'⟩
      · obtain ⟨m', hm, i'⟩ := p
        exact ⟨m', hm, G3, Γ3, st2.trans q, s3, i'⟩
end

/-! ### a def -/
/-- what a def's body is to come to -/
def Post : Res → Out → Prop
  | .ok d, .rt e => e = d
  | .ok d, .nx _ => d = .none
  | .own ds, .ro es => es = ds
  | .er C, .ex C' => C' = C
  | _, _ => False
def env0 (N : List Str) (ds : List PyData) : Env := ds.map .da ++ List.replicate (N.length - ds.length) .no
theorem sat_start {K : PySem.W.Frag} {G H : Hp} {N : List Str} {vs : List V} {ds : List PyData} (a : AtAll K G vs ds) : Sat K H G H (L2.start N vs) (env0 N ds) := by
  have hl := a.length
  have nod : ∀ {i : Nat} {ks : List Int}, ¬ (env0 N ds)[i]? = some (.od ks) := fun {i ks} q => by
    unfold env0 at q
    by_cases hi : i < ds.length
    · rw [List.getElem?_append_left (by simpa using hi), List.getElem?_map] at q
      obtain ⟨e, he, z⟩ := Option.map_eq_some_iff.mp q
      cases z
    · rw [List.getElem?_append_right (by simpa using Nat.le_of_not_lt hi), List.getElem?_replicate] at q
      split at q <;> cases q
  refine ⟨by unfold L2.start env0; simp [hl], fun i d q => ?_, fun i es q => ?_, fun i j di dj p q1 q2 => ?_, fun i ks q => absurd q nod, fun i j di dj p q => absurd q nod, fun i v o q => ?_⟩
  · unfold env0 at q
    by_cases hi : i < ds.length
    · rw [List.getElem?_append_left (by simpa using hi), List.getElem?_map] at q
      obtain ⟨e, he, z⟩ := Option.map_eq_some_iff.mp q
      cases z
      obtain ⟨v, h1, h2⟩ := a.get he
      refine ⟨v, ?_, h2⟩
      unfold L2.start
      rw [List.getElem?_append_left (by simp; omega), List.getElem?_map, h1]
      rfl
    · rw [List.getElem?_append_right (by simpa using Nat.le_of_not_lt hi), List.getElem?_replicate] at q
      split at q <;> cases q
  · unfold env0 at q
    by_cases hi : i < ds.length
    · rw [List.getElem?_append_left (by simpa using hi), List.getElem?_map] at q
      obtain ⟨e, he, z⟩ := Option.map_eq_some_iff.mp q
      cases z
    · rw [List.getElem?_append_right (by simpa using Nat.le_of_not_lt hi), List.getElem?_replicate] at q
      split at q <;> cases q
  · unfold env0 at q1
    by_cases hi : i < ds.length
    · rw [List.getElem?_append_left (by simpa using hi), List.getElem?_map] at q1
      obtain ⟨e, he, z⟩ := Option.map_eq_some_iff.mp q1
      cases z
    · rw [List.getElem?_append_right (by simpa using Nat.le_of_not_lt hi), List.getElem?_replicate] at q1
      split at q1 <;> cases q1
  · unfold env0 at q
    by_cases hi : i < ds.length
    · rw [List.getElem?_append_left (by simpa using hi), List.getElem?_map] at q
      obtain ⟨e, he, z⟩ := Option.map_eq_some_iff.mp q
      cases z
    · rw [List.getElem?_append_right (by simpa using Nat.le_of_not_lt hi), List.getElem?_replicate] at q
      split at q <;> cases q
section
variable {Pg : Program} {w : World} {K : PySem.W.Frag} {mg : Str → Option Value} {base : Heap}
theorem body_of {S : List PyData → Res → Prop} {N : List Str} {t : TS} {vs : List V} {H : Hp} {Q : VK} {E : XK} (h : spOf K S vs H Q E) (hb : ∀ ds r, S ds r → HT K E t (env0 N ds) (Post r)) :
    t { nx := fun _ H' => Q .non H', rt := Q } (L2.start N vs) H := by
  obtain ⟨G, ds, r, gh, a, hs, q1, q2, q3⟩ := h
  refine hb ds r hs H G H _ _ (sat_start a) gh (Same.refl H) ⟨fun Γ' σ' G' H' p st s => ?_, fun d v G' H' p st av => ?_, fun es p us G' H' z st h0 g0 h1 av => ?_, fun Γ' σ' G' H' p st s => ?_, fun Γ' σ' G' H' p st s => ?_, fun C H' p st => ?_⟩
  · cases r with
    | ok d =>
      have e : d = .none := p
      subst e
      exact q1 _ rfl .non G' H' ⟨st.hh, st.gg, st.gh, st.fr⟩ .non
    | own es => exact False.elim p
    | er C => exact False.elim p
  · cases r with
    | ok d' =>
      have e : d = d' := p
      subst e
      exact q1 _ rfl v G' H' ⟨st.hh, st.gg, st.gh, st.fr⟩ av
    | own es => exact False.elim p
    | er C => exact False.elim p
  · cases r with
    | ok d' => exact False.elim z
    | own es' =>
      have e : es = es' := z
      subst e
      exact q2 _ rfl p us G' H' ⟨st.hh, st.gg, st.gh, st.fr⟩ h0 g0 h1 av
    | er C => exact False.elim z
  · cases r <;> exact False.elim p
  · cases r <;> exact False.elim p
  · cases r with
    | ok d' => exact False.elim p
    | own es' => exact False.elim p
    | er C' =>
      have e : C = C' := p
      subst e
      exact q3 _ rfl H' st
/-- a def keeps its contract -/
theorem fn_ok {x qual : Str} {st : Stmt} {f : Addr} {fd : FuncData} {N ps : List Str} {k : Nat} {S : List PyData → Res → Prop} (F : Fun K x qual st f fd) (Sc : FnScope N ps (defScope st)) (len : ∀ ds r, S ds r → ds.length = ps.length)
    (hbody : ∀ (cdv : Value) (A : Around) (outer : List PySem.Env) (s : Shared) (H : Hp) (E : XK), Room k (A.deeper (PyProof.Rows.envOfC qual (defScope st) s.heap.objs.size f cdv)) →
      ∃ t, PSs (cxOf (L2.CX Pg w) Pg w K mg base N qual (defScope st) f cdv A outer s H E) (defBody st) t ∧ ∀ ds r, S ds r → HT K E t (env0 N ds) (Post r)) : FnOk Pg w K mg base (L2.CX Pg w) (k + 1) f fd ps (spOf K S) := by
  refine F.okX Sc (fun vs H Q E h => ?_) (fun cdv A outer s H vs Q E hr h => ?_)
  · obtain ⟨G, ds, r, gh, a, hs, _⟩ := h
    rw [a.length]; exact len ds r hs
  · obtain ⟨t, h1, h2⟩ := hbody cdv A outer s H E hr
    exact ⟨t, h1, body_of h h2⟩
end
end PD

set_option Elab.async false
set_option linter.all false
set_option maxRecDepth 100000
set_option maxHeartbeats 1000000
/-! Derivations whose readings PD knows. -/
namespace PD
open PySem L2
section
variable {X : Cx} {a b c e : Expr} {ta tb tc te : TE} {pos : Pos}
theorem o_add : OpR X (binaryOp .Add) rAdd3 := OpR.or op_add (OpR.or op_add_str op_cat)
theorem o_sub : OpR X (binaryOp .Sub) rSubI := op_sub
theorem o_mul : OpR X (binaryOp .Mult) rMul2 := OpR.or op_mul op_rep
theorem o_mod : OpR X (binaryOp .Mod) rModI := op_mod
theorem o_div : OpR X (binaryOp .FloorDiv) rDivI := op_fdiv
theorem o_pow : OpR X (binaryOp .Pow) rPowI := op_pow
theorem o_eq (hu : X.A.units + 64 < cLine) : OpR X (compareOp .Eq) (rEq2 X.K) := OpR.or op_eq (op_eqD hu)
theorem o_ne (hu : X.A.units + 64 < cLine) : OpR X (compareOp .NotEq) (rNe2 X.K) := OpR.or op_ne (op_neD hu)
theorem o_lt : OpR X (compareOp .Lt) rLtI := op_lt
theorem o_le : OpR X (compareOp .LtE) rLeI := op_le
theorem o_gt : OpR X (compareOp .Gt) rGtI := op_gt
theorem o_ge : OpR X (compareOp .GtE) rGeI := op_ge
theorem o_isN : OpR X (compareOp .Is) rIsN := op_isN
theorem o_notN : OpR X (compareOp .IsNot) rNotN := op_notN
theorem c_len : CallR X (.builtin "len") (rLenV X.K) := call_len
theorem c_list : CallR X (.type "list") (rListV X.K) := call_list_of
theorem c_tuple : CallR X (.type "tuple") (rTupleV X.K) := call_tuple_of
theorem c_sum (hc : X.calm = true) : CallR X (.builtin "sum") (rSum X.K) := cr_sum hc
theorem c_max (hc : X.calm = true) : CallR X (.builtin "max") (rMax X.K) := cr_max hc
theorem c_all (hc : X.calm = true) : CallR X (.builtin "all") (rAll X.K) := cr_all hc
theorem c_max2 (hc : X.calm = true) : CallR X (.builtin "max") rMax2V := call_max2 hc
theorem c_min2 (hc : X.calm = true) : CallR X (.builtin "min") rMin2V := call_min2 hc
theorem c_int1 : CallR X (.type "int") rInt1V := call_int1
theorem c_isi : CallR X (.builtin "isinstance") (rIsi X.K) := call_isi
abbrev rStrI : List V → Hp → VK → Prop := fun xs H Q => ∃ i, xs = [.int i] ∧ i.natAbs.log2 < 1920 ∧ Q (.str (toString i)) H
theorem c_str : CallR X (.type "str") rStrI := call_str_int
theorem pass_call {E : XK} {E₁ : Value → Shared → Prop} (hs : X.stack = X.env :: X.outer) (hf : X.env.frame = some X.env.locals) (hex : X.ex = [])
    (hx : X.xe = fun e s' => wpAny (model X.prog X.w) X.A (leaving X.env e) (fun _ s'' => L2.CX X.prog X.w X.outer X.H_0 X.s_0 E e s'') E₁ s') : Passes (L2.CX X.prog X.w) X E :=
  passes_call (takes_of hs hf hex hx) (fun _ _ _ _ h => h)
/-- what a class of refusals must say -/
structure ExF (K : PySem.W.Frag) (mg : Str → Option Value) (x : Str) (C : Addr) : Prop where
  g : mg x = some (.ref C)
  k : PySem.W.keepIn K (.ref C) = true
  e : PySem.W.excIn K C [.type "ValueError", .type "Exception", .type "BaseException", .type "object"] "ValueError.__new__" = true
  s : PySem.W.subIn K (.ref C) (.type "BaseException") = some true
  t : PySem.W.typeIn K (.ref C) = some (.type "type")
theorem p_raise {E : XK} {E₁ : Value → Shared → Prop} {C : Addr} {x m : Str} {j : Nat} {p p2 pos pos2 : Pos} (F : ExF X.K X.mg x C) (hc : X.calm = true) (hs : X.stack = X.env :: X.outer) (hf : X.env.frame = some X.env.locals) (hex : X.ex = [])
    (hx : X.xe = fun e s' => wpAny (model X.prog X.w) X.A (leaving X.env e) (fun _ s'' => L2.CX X.prog X.w X.outer X.H_0 X.s_0 E e s'') E₁ s') (hg : Gl X x) (hdb : (x == ("__debug__" : Str)) = false := by decide) :
    PS X (.Raise (some (.Call (.Name x p) [.Constant (.str m) j p2] [] pos)) none pos2) (tRaiseC C E) :=
  ps_raise hc (takes_of hs hf hex hx) (pmk_own PySem.F.excBase_ValueError F.e F.g F.k (raises_own F.s F.t) hg hdb)
end

/-! ### more readings over data -/
section
variable {K : PySem.W.Frag} {Γ : Env} {ta tb te : TE} {E : XK} {P : Out → Prop}
/-- list(range(n)) -/
theorem eo_listRg {n : Int} (h : EvD K te Γ (.int n)) (hn : 0 ≤ n ∧ n ≤ 100000) : EvO K (tLstRg (tRg1 te)) Γ ((List.range n.toNat).map fun i : Nat => PyData.int (i : Int)) := fun H0 G H σ s gh Q q =>
  h H0 G H σ s gh _ fun v G1 H1 e1 a1 => by
    cases a1
    refine ⟨n, rfl, RgOk.of_le (by omega) (by omega) (by omega) (by omega), fun p hp => ?_⟩
    refine q p _ G1 _ (e1.trans (Ext.own e1.gh hp)) (e1.hh.free hp) (e1.gh.free hp) upd_same ?_
    have e : rgV 0 n = ((List.range n.toNat).map fun i : Nat => (i : Int)).map V.int := by
      unfold rgV
      rw [List.map_map, show (n - 0).toNat = n.toNat by omega]
      refine List.map_congr_left fun i _ => ?_
      show V.int (0 + (i : Int)) = V.int (i : Int)
      rw [Int.zero_add]
    have e2 : ((List.range n.toNat).map fun i : Nat => PyData.int (i : Int)) = ((List.range n.toNat).map fun i : Nat => (i : Int)).map PyData.int := by rw [List.map_map]; rfl
    rw [e, e2]
    exact atAll_ints _
theorem eo_listRg2 {lo n : Int} (h : EvD K ta Γ (.int lo)) (h2 : EvD K tb Γ (.int n)) (hl : 0 ≤ lo ∧ lo ≤ 100000) (hn : 0 ≤ n ∧ n ≤ 100000) : EvO K (tLstRg (tRg2 ta tb)) Γ ((List.range (n - lo).toNat).map fun i : Nat => PyData.int (lo + (i : Int))) := fun H0 G H σ s gh Q q =>
  h H0 G H σ s gh _ fun v G1 H1 e1 a1 => by
    cases a1
    refine h2 H0 G1 H1 σ (s.ext e1) e1.gh _ fun w G2 H2 e2 a2 => ?_
    cases a2
    have e12 := e1.trans e2
    refine ⟨lo, n, rfl, rfl, RgOk.of_le (by omega) (by omega) (by omega) (by omega), fun p hp => ?_⟩
    refine q p _ G2 _ (e12.trans (Ext.own e2.gh hp)) (e12.hh.free hp) (e2.gh.free hp) upd_same ?_
    have e : rgV lo n = ((List.range (n - lo).toNat).map fun i : Nat => lo + (i : Int)).map V.int := by
      unfold rgV
      rw [List.map_map]
      rfl
    have e2 : ((List.range (n - lo).toNat).map fun i : Nat => PyData.int (lo + (i : Int))) = ((List.range (n - lo).toNat).map fun i : Nat => lo + (i : Int)).map PyData.int := by rw [List.map_map]; rfl
    rw [e, e2]
    exact atAll_ints _
/-- xs.append(ys.pop(k)), both slots' own -/
theorem ht_appPop {i j : Nat} {ds es : List PyData} {k : Int} {d : PyData} (hij : i ≠ j) (hi : Γ[i]? = some (.ow ds)) (hj : Γ[j]? = some (.ow es)) (h : EvD K te Γ (.int k)) (k0 : 0 ≤ k) (hd : es[k.toNat]? = some d) (hz : ds.length < 100000) (hz2 : es.length < 100000)
    (p : P (.nx ((Γ.set j (.ow (es.eraseIdx k.toNat))).set i (.ow (ds ++ [d]))))) :
    HT K E (tDrop (tBM K "list" rAppend (tVar i) (tCons (tBM K "list" rPopAt (tVar j) (tCons te tNil)) tNil))) Γ P := fun H0 G H σ D s gh h0 m => by
  obtain ⟨q, vs, k1, k2, k3, k4, k5⟩ := s.ow i ds hi
  obtain ⟨r, ws, l1, l2, l3, l4, l5⟩ := s.ow j es hj
  have qr : q ≠ r := fun e => by subst e; exact hij (s.ne i j ds es q hi hj k1 l1)
  refine ⟨_, k1, .inl ⟨rfl, vs, SqL.of k2⟩, ?_⟩
  refine ⟨_, l1, .inl ⟨rfl, ws, SqL.of l2⟩, ?_⟩
  refine h H0 G H σ s gh _ fun v G1 H1 e1 a1 => ?_
  cases a1
  have r1 : H1 r = some (.lst ws) := e1.hh _ _ l2
  have q1 : H1 q = some (.lst vs) := e1.hh _ _ k2
  have gr : G1 r = none := e1.fr r l3 (by rw [l2]; exact fun z => nomatch z)
  have gq : G1 q = none := e1.fr q k3 (by rw [k2]; exact fun z => nomatch z)
  have kl : k.toNat < es.length := (List.getElem?_eq_some_iff.mp hd).1
  obtain ⟨v, hv, av⟩ := l5.get hd
  have hw : ws.length = es.length := l5.length
  refine ⟨r, ws, k, k.toNat, v, rfl, rfl, r1, by omega, by omega, ?_, hv, ?_⟩
  · exact seqIndex_of k0 (by rw [hw]; omega)
  · refine ⟨q, vs, v, rfl, rfl, by rw [upd_ne qr]; exact q1, by rw [k5.length]; exact Nat.lt_trans hz (by decide), ?_⟩
    have s1 := (s.ext e1).write (vs := ws.eraseIdx k.toNat) hj l1 ((l5.up e1.gg).erase k.toNat)
    have hi' : (Γ.set j (.ow (es.eraseIdx k.toNat)))[i]? = some (.ow ds) := by rw [List.getElem?_set_ne (Ne.symm hij)]; exact hi
    refine m.nx _ _ G1 _ p ⟨fun b x z => ?_, e1.gg, fun b x z => ?_, fun a z n => e1.fr a z (some_up h0 n)⟩ (s1.write hi' k1 ((k5.up e1.gg).snoc (av.up e1.gg)))
    · rw [upd_ne (ne_of_none z k4), upd_ne (ne_of_none z l4)]; exact e1.hh _ _ (h0 _ _ z)
    · rw [upd_ne (ne_of_none z gq), upd_ne (ne_of_none z gr)]; exact e1.gh _ _ z
/-- xs.index(y) of ints -/
theorem ev_index {ns : List Int} {y : Int} {j : Nat} (ha : EvD K ta Γ (.list (ns.map .int))) (hb : EvD K tb Γ (.int y)) (hj : ns[j]? = some y) (hn : ∀ m, m < j → ns[m]? ≠ some y) : EvD K (tBM K "list" (rIndex K) ta (tCons tb tNil)) Γ (.int (j : Int)) := fun H0 G H σ s gh Q q =>
  ha H0 G H σ s gh _ fun v G1 H1 e1 a1 => by
    cases a1 with
    | lst l1 l2 =>
      rename_i l us
      have e := l2.ints
      subst e
      refine ⟨.inl ⟨rfl, _, SqL.of (e1.gh _ _ l1)⟩, ?_⟩
      refine hb H0 G1 H1 σ (s.ext e1) e1.gh _ fun w G2 H2 e2 a2 => ?_
      cases a2
      refine ⟨l, ns.map V.int, .int y, j, .int y, rfl, rfl, SqL.of (e2.gh _ _ (e2.gg _ _ l1)), rfl, all_flat (K := K) (G := G), ?_, by simp [eqV], fun m z hm hz => ?_, q _ G2 H2 (e1.trans e2) (.int _)⟩
      · rw [List.getElem?_map, hj]; rfl
      · rw [List.getElem?_map] at hz
        obtain ⟨k, hk, rfl⟩ := Option.map_eq_some_iff.mp hz
        have : k ≠ y := fun e => hn m hm (by rw [hk, e])
        simpa [eqV] using this
/-- -i -/
theorem ev_neg {i : Int} (ha : EvD K ta Γ (.int i)) : EvD K (tUn (rU fun i => .int (-i)) ta) Γ (.int (-i)) := fun H0 G H σ s gh Q q => ha H0 G H σ s gh _ fun v G1 H1 e1 a1 => by
  cases a1
  exact ⟨i, rfl, q _ G1 H1 e1 (.int _)⟩
/-! ### what raises, on the way -/
theorem xa_head {ta : TE} {tr : TA} {C : Addr} (h : EvX K E ta Γ C) : ExA K E (tCons ta tr) Γ C := fun H0 G H σ s gh hE Q => h H0 G H σ s gh hE _
theorem xa_tail {ta : TE} {tr : TA} {C : Addr} {d : PyData} (h : EvD K ta Γ d) (hr : ExA K E tr Γ C) : ExA K E (tCons ta tr) Γ C := fun H0 G H σ s gh hE Q => h H0 G H σ s gh _ fun v G1 H1 e1 _ => hr H0 G1 H1 σ (s.ext e1) e1.gh (fun H' e => hE H' (e1.hh.trans e)) _
theorem ex_tup {ta : TA} {C : Addr} (h : ExA K E ta Γ C) : EvX K E (tTup ta) Γ C := fun H0 G H σ s gh hE Q => h H0 G H σ s gh hE _
theorem ex_opL {r : R2} {C : Addr} (h : EvX K E ta Γ C) : EvX K E (tOp r ta tb) Γ C := fun H0 G H σ s gh hE Q => h H0 G H σ s gh hE _
theorem ex_opR {r : R2} {C : Addr} {d : PyData} (h : EvD K ta Γ d) (h2 : EvX K E tb Γ C) : EvX K E (tOp r ta tb) Γ C := fun H0 G H σ s gh hE Q => h H0 G H σ s gh _ fun v G1 H1 e1 _ => h2 H0 G1 H1 σ (s.ext e1) e1.gh (fun H' e => hE H' (e1.hh.trans e)) _
theorem xt_test {C : Addr} (h : EvX K E te Γ C) : ExT K E (tTest te) Γ C := fun H0 G H σ s gh hE Q => h H0 G H σ s gh hE _
theorem xt_B {C : Addr} (h : EvX K E te Γ C) : ExT K E (tB te) Γ C := fun H0 G H σ s gh hE Q => h H0 G H σ s gh hE _
theorem xt_orL {t u : TT} {C : Addr} (h : ExT K E t Γ C) : ExT K E (tOr t u) Γ C := fun H0 G H σ s gh hE Q => h H0 G H σ s gh hE _
theorem xt_orR {t u : TT} {C : Addr} (h : EvT K t Γ false) (h2 : ExT K E u Γ C) : ExT K E (tOr t u) Γ C := fun H0 G H σ s gh hE Q => h H0 G H σ s gh _ fun G1 H1 e1 => h2 H0 G1 H1 σ (s.ext e1) e1.gh (fun H' e => hE H' (e1.hh.trans e)) Q
theorem ht_ifX {tt : TT} {t u : TS} {C : Addr} (h : ExT K E tt Γ C) (p : P (.ex C)) : HT K E (tIfS tt t u) Γ P := fun H0 G H σ D s gh h0 m => h H0 G H σ s gh (fun H' e => m.ex C H' p (h0.trans e)) _
/-- xs.append(e), e raises -/
theorem ht_appX {i : Nat} {ds : List PyData} {C : Addr} (hi : Γ[i]? = some (.ow ds)) (h : EvX K E te Γ C) (p : P (.ex C)) : HT K E (tDrop (tBM K "list" rAppend (tVar i) (tCons te tNil))) Γ P := fun H0 G H σ D s gh h0 m => by
  obtain ⟨q, vs, k1, k2, k3, k4, k5⟩ := s.ow i ds hi
  refine ⟨_, k1, .inl ⟨rfl, vs, SqL.of k2⟩, ?_⟩
  exact h H0 G H σ s gh (fun H' e => m.ex C H' p (h0.trans e)) _
end
/-! ### built-ins -/
theorem bt_len : bootBuiltins "len" = some (.builtin "len") := by decide +kernel
theorem bt_isinstance : bootBuiltins "isinstance" = some (.builtin "isinstance") := by decide +kernel
theorem bt_list : bootBuiltins "list" = some (.type "list") := by decide +kernel
theorem bt_tuple : bootBuiltins "tuple" = some (.type "tuple") := by decide +kernel
theorem bt_int : bootBuiltins "int" = some (.type "int") := by decide +kernel
theorem bt_bool : bootBuiltins "bool" = some (.type "bool") := by decide +kernel
theorem bt_str : bootBuiltins "str" = some (.type "str") := by decide +kernel
theorem bt_dict : bootBuiltins "dict" = some (.type "dict") := by decide +kernel
theorem bt_max : bootBuiltins "max" = some (.builtin "max") := by decide +kernel
theorem bt_min : bootBuiltins "min" = some (.builtin "min") := by decide +kernel
theorem bt_sum : bootBuiltins "sum" = some (.builtin "sum") := by decide +kernel
theorem bt_all : bootBuiltins "all" = some (.builtin "all") := by decide +kernel
theorem bt_sorted : bootBuiltins "sorted" = some (.builtin "sorted") := by decide +kernel
end PD
namespace PD
open PySem L2
/-- a def of the text as it stands behind the top -/
structure Def1 (K : PySem.W.Frag) (mg : Str → Option Value) (name : Str) (st : Stmt) (ps : List Str) : Type where
  f : Addr
  fd : FuncData
  F : Fun K name name st f fd
  m : mg name = some (.ref f)
  b : Binds K fd ps []
theorem law_sp {K : PySem.W.Frag} {S : List PyData → Res → Prop} {H : Hp} {a : Addr} {ns : List Int} (hS : SqL K H a (ns.map V.int)) (h : S [scr ns] (.ok (.bool true))) :
    spOf K S [.ref a] H (fun v _ => v = .bl true) fun _ _ _ => False :=
  ⟨H, [scr ns], .ok (.bool true), Same.refl H, .cons (At.ofScr hS) .nil, h, fun d z v G' H' e a => by cases z; cases a; rfl, fun _ z => (nomatch z), fun _ z => (nomatch z)⟩
theorem no_cx {P : Program} {w : World} {H : Hp} {s : Shared} {e : Value} {s' : Shared} (h : L2.CX P w [] H s (fun _ _ _ => False) e s') : False := by
  obtain ⟨_, _, _, _, _, _, _, _, _, _, _, _, z⟩ := h
  exact z
end PD

set_option Elab.async false
set_option linter.all false
set_option maxRecDepth 100000
set_option maxHeartbeats 1000000
/-! try, and what is asked of a caught error. -/
namespace PD
open PySem L2
def tTry (K : PySem.W.Frag) (c : Value) (tb : WX → TS) (ts : Addr → Value → Option Addr → TS) (Wout : WX) : TS := fun D σ H => tb (wOnly K c ts Wout D) D σ H
def tTryAs (K : PySem.W.Frag) (c : Value) (i : Nat) (tb : WX → TS) (ts : Addr → Value → Option Addr → TS) (Wout : WX) : TS := fun D σ H => tb (wAs K c i ts Wout D) D σ H
def tTryMany (K : PySem.W.Frag) (tb : WX → TS) (l : List (Value × (Addr → Value → Option Addr → TS))) (Wout : WX) : TS := fun D σ H => tb (wMany K Wout D l) D σ H
section
variable {X : Cx} {x : Str} {c : Value} {body suite : List Stmt} {b₀ : Stmt} {np pos pos' : Pos} {tb : WX → TS} {ts : Addr → Value → Option Addr → TS} {Wout : WX}
theorem p_try (hs : X.stack = X.env :: X.outer) (hf : X.env.frame = some X.env.locals) (hc : Names X x c) (tk : Takes X Wout)
    (hb : ∀ (W : WX) (pn : List (Addr × Obj)) (xe : Value → Shared → Prop), Takes (X.tr pn xe) W → PassesOwn (model X.prog X.w) X.A X.env xe → PSs (X.tr pn xe) body (tb W))
    (hsu : ∀ (a : Addr) (oe : Obj) (cls : Value) (d : Option Addr) (pn : List (Addr × Obj)), Zc cls d oe → (∃ vs, oe.data = .fields vs) → PSs (X.suite a ((a, oe) :: pn)) (b₀ :: suite) (ts a cls d)) :
    PS X (.Try body [.ExceptHandler (some (.Name x np)) none (b₀ :: suite) pos'] [] [] pos) (tTry X.K c tb ts Wout) := ps_try_only hs hf hc tk hb hsu
theorem p_try_as {i : Nat} {n : Str} (hs : X.stack = X.env :: X.outer) (hf : X.env.frame = some X.env.locals) (hN : X.N.Nodup) (hi : X.N[i]? = some n) (hln : X.env.kindOf n = some .local) (hc : Names X x c) (tk : Takes X Wout)
    (hb : ∀ (W : WX) (pn : List (Addr × Obj)) (xe : Value → Shared → Prop), Takes (X.tr pn xe) W → PassesOwn (model X.prog X.w) X.A X.env xe → PSs (X.tr pn xe) body (tb W))
    (hsu : ∀ (a : Addr) (oe : Obj) (cls : Value) (d : Option Addr) (pn : List (Addr × Obj)), Zc cls d oe → (∃ vs, oe.data = .fields vs) → PSs (X.suite a ((a, oe) :: pn)) (b₀ :: suite) (ts a cls d)) :
    PS X (.Try body [.ExceptHandler (some (.Name x np)) (some n) (b₀ :: suite) pos'] [] [] pos) (tTryAs X.K c i tb ts Wout) := ps_try_as hs hf hN hi hln hc tk hb hsu
theorem p_try_many {h₀ : ExceptHandler} {hds : List ExceptHandler} {l : List (Value × (Addr → Value → Option Addr → TS))} (hs : X.stack = X.env :: X.outer) (hf : X.env.frame = some X.env.locals) (tk : Takes X Wout)
    (hb : ∀ (W : WX) (pn : List (Addr × Obj)) (xe : Value → Shared → Prop), Takes (X.tr pn xe) W → PassesOwn (model X.prog X.w) X.A X.env xe → PSs (X.tr pn xe) body (tb W))
    (hh : HdsOk X (h₀ :: hds) l) : PS X (.Try body (h₀ :: hds) [] [] pos) (tTryMany X.K tb l Wout) := ps_try_many hs hf tk hb hh
end
/-- what is told of the errors of the class at C: by except clauses, by isinstance -/
structure TF (K : PySem.W.Frag) (C : Addr) (xs ys : List (Value × Bool)) : Prop where
  x : ExcC K C
  e : ∀ p ∈ xs, PySem.W.exmOne K (.ref C) p.1 = some p.2
  k : ∀ p ∈ ys, PySem.W.kitOne K (.ref C) p.1 = some p.2
theorem tf_nil {P : Value × Bool → Prop} : ∀ p ∈ ([] : List (Value × Bool)), P p := fun _ h => nomatch h
theorem tf_cons {P : Value × Bool → Prop} {x : Value × Bool} {xs : List (Value × Bool)} (h : P x) (r : ∀ p ∈ xs, P p) : ∀ p ∈ x :: xs, P p := fun p hp => by
  rcases List.mem_cons.mp hp with e | e
  · rw [e]; exact h
  · exact r p e
/-- isinstance(e, c), e the error that the suite holds, c one class -/
def rIsE1 (K : PySem.W.Frag) (cls : Value) (d : Option Addr) (a : Addr) : List V → Hp → VK → Prop := fun xs H Q => ∃ (D : Addr) (c : V) (cv : Value) (b : Bool), cls = .ref D ∧ d = none ∧ ExcC K D ∧ xs = [.ref a, c] ∧ ClsV c cv ∧ PySem.W.kitOne K (.ref D) cv = some b ∧ Q (.bl b) H
theorem c_isE1 {X : Cx} {a : Addr} {cls : Value} {d : Option Addr} {oe : Obj} {pn : List (Addr × Obj)} (hz : Zc cls d oe) (hf : ∃ vs, oe.data = .fields vs) : CallR (X.suite a ((a, oe) :: pn)) (.builtin "isinstance") (rIsE1 X.K cls d a) := by
  intro pins s σ H xs us Q I r h
  obtain ⟨D, c, cv, b, rfl, rfl, hx, rfl, hcv, e, q⟩ := h
  exact call_isE hx hz hf pins s σ H _ us Q I r ⟨c, cv, b, rfl, fun u ru => hcv.eq ru, e, q⟩
/-- .. a tuple of classes -/
def rIsET (K : PySem.W.Frag) (cls : Value) (d : Option Addr) (a : Addr) : List V → Hp → VK → Prop := fun xs H Q => ∃ (D tp : Addr) (cs : List V) (ws : List Value) (b : Bool), cls = .ref D ∧ d = none ∧ ExcC K D ∧ xs = [.ref a, .ref tp] ∧ H tp = some (.tup cs) ∧ Paired ClsV cs ws ∧ PySem.W.kitAny K (.ref D) ws = some b ∧ Q (.bl b) H
theorem c_isET {X : Cx} {a : Addr} {cls : Value} {d : Option Addr} {oe : Obj} {pn : List (Addr × Obj)} (hz : Zc cls d oe) (hf : ∃ vs, oe.data = .fields vs) : CallR (X.suite a ((a, oe) :: pn)) (.builtin "isinstance") (rIsET X.K cls d a) := by
  intro pins s σ H xs us Q I r h
  obtain ⟨D, tp, cs, ws, b, rfl, rfl, C, rfl, hT, k, e, q⟩ := h
  obtain ⟨u1, u2, rfl, r1, r2⟩ := vals2 r
  cases (show u1 = Value.ref a from r1)
  cases (show u2 = Value.ref tp from r2)
  obtain ⟨hget, _⟩ := I.pin (a, oe) (List.mem_append.mpr (.inl List.mem_cons_self))
  obtain ⟨vs, hv⟩ := hf
  have J : PySem.W.InstAt s.heap a oe D none := by
    obtain ⟨oc, od, oda, osl⟩ := oe
    obtain ⟨h1, h2⟩ := hz
    dsimp only at h1 h2 hv
    subst h1 h2 hv
    exact ⟨hget, rfl, rfl, trivial⟩
  obtain ⟨_, its, rv, o, h1, h2, n, h3⟩ := (show ObjOk X.prog X.w H s.heap tp (.tup cs) from I.hok tp _ hT)
  have e3 := ClsV.all k rv
  subst e3
  obtain ⟨oc, od, dt, sl⟩ := o
  simp only at h2 h3
  subst h2 h3
  exact PySem.W.kia_tup (PySem.W.handS_kitx_exc C.hg C.hk C.hs C.hd C.ha C.hn C.ht C.hm) I.kIn J h1 e (fun z => nomatch z) fun tk => ⟨.bl b, H, I.kept (t' := tk) fun _ _ z => z, rfl, q⟩
section
variable {K : PySem.W.Frag} {E : XK} {Γ : Env} {P : Out → Prop} {ta : TA} {S : List PyData → Res → Prop} {ds : List PyData} {c : Value} {ts : Addr → Value → Option Addr → TS} {Wout : WX} {i : Nat}
/-- the body calls one function, and that comes back -/
theorem ht_tryD {d : PyData} (h : EvA K ta Γ ds) (hs : S ds (.ok d)) (p : P (.nx Γ)) : HT K E (tTry K c (fun W => tDrop (tCallS (spOf K S) (WE W) ta)) ts Wout) Γ P := fun H0 G H σ D s gh h0 m =>
  h H0 G H σ s gh _ fun vs G1 H1 e1 a1 => ⟨G1, ds, .ok d, e1.gh, a1, hs, fun d' z v G' H' e a => by
    have e2 := e1.trans e
    exact m.nx _ _ G' H' p (e2.step h0) (s.ext e2), fun es z => (nomatch z), fun C z => (nomatch z)⟩
/-- .. and that raises what the clause takes -/
theorem ht_tryX {C : Addr} (h : EvA K ta Γ ds) (hs : S ds (.er C)) (hm : PySem.W.exmOne K (.ref C) c = some true) (hsu : ∀ a, HT K E (ts a (.ref C) none) Γ P) : HT K E (tTry K c (fun W => tDrop (tCallS (spOf K S) (WE W) ta)) ts Wout) Γ P := fun H0 G H σ D s gh h0 m =>
  h H0 G H σ s gh _ fun vs G1 H1 e1 a1 => ⟨G1, ds, .er C, e1.gh, a1, hs, fun d z => (nomatch z), fun es z => (nomatch z), fun C' z H' e => by
    cases z
    refine ⟨true, hm, fun _ a ha => ?_, fun z => nomatch z⟩
    have e2 := e1.trans (Ext.grow e1.gh e)
    exact hsu a H0 G1 H' σ D (s.ext e2) e2.gh (h0.trans e2.hh) (m.step (e2.step h0))⟩
def TryEnd (i : Nat) (P : Out → Prop) : Out → Prop
  | .nx Γ' => P (.nx (Γ'.set i .no))
  | .bk Γ' => P (.bk (Γ'.set i .no))
  | .ct Γ' => P (.ct (Γ'.set i .no))
  | o => P o
theorem ht_tryAsX {C : Addr} (h : EvA K ta Γ ds) (hs : S ds (.er C)) (hm : PySem.W.exmOne K (.ref C) c = some true) (hsu : ∀ a, HT K E (ts a (.ref C) none) (Γ.set i (.rf a)) (TryEnd i P)) : HT K E (tTryAs K c i (fun W => tDrop (tCallS (spOf K S) (WE W) ta)) ts Wout) Γ P := fun H0 G H σ D s gh h0 m =>
  h H0 G H σ s gh _ fun vs G1 H1 e1 a1 => ⟨G1, ds, .er C, e1.gh, a1, hs, fun d z => (nomatch z), fun es z => (nomatch z), fun C' z H' e => by
    cases z
    refine ⟨true, hm, fun _ a ha => ?_, fun z => nomatch z⟩
    have e2 := e1.trans (Ext.grow e1.gh e)
    have m2 := m.step (e2.step h0)
    exact hsu a H0 G1 H' _ _ ((s.ext e2).setR) e2.gh (h0.trans e2.hh) ⟨fun Γ' σ' G' H' p q s' => m2.nx _ _ G' H' p q s'.setN, fun d v G' H' p q => m2.rt d v G' H' p q, fun ds q us G' H' p z => m2.ro ds q us G' H' p z,
      fun Γ' σ' G' H' p q s' => m2.bk _ _ G' H' p q s'.setN, fun Γ' σ' G' H' p q s' => m2.ct _ _ G' H' p q s'.setN, fun C H' p q => m2.ex C H' p q⟩⟩
/-- the answer of isinstance(e, c) -/
theorem ev_isE1 {D a : Addr} {n : V} {cv : Value} {b : Bool} (hi : Γ[i]? = some (.rf a)) (C : ExcC K D) (hn : ClsV n cv) (hk : PySem.W.kitOne K (.ref D) cv = some b) : EvD K (tCB (rIsE1 K (.ref D) none a) (tCons (tVar i) (tCons (tC n) tNil))) Γ (.bool b) := fun H0 G H σ s gh Q q =>
  ⟨_, s.rf i a hi, D, n, cv, b, rfl, rfl, C, rfl, hn, hk, q _ G H (Ext.refl gh) (.bl b)⟩
/-- classes as constants -/
def cA : List Addr → TA
  | [] => tNil
  | a :: r => tCons (tC (.ref a)) (cA r)
theorem cA_run {σ : St} {H : Hp} : ∀ (cs : List Addr) (Q : List V → Hp → Prop), Q (cs.map V.ref) H → cA cs σ H Q
  | [], Q, q => q
  | a :: r, Q, q => cA_run (σ := σ) r (fun vs H1 => Q (V.ref a :: vs) H1) q
theorem ev_isET {D a : Addr} {b : Bool} (cs : List Addr) (hi : Γ[i]? = some (.rf a)) (C : ExcC K D) (hl : cs.length ≤ 100000) (hk : PySem.W.kitAny K (.ref D) (cs.map Value.ref) = some b) : EvD K (tCB (rIsET K (.ref D) none a) (tCons (tVar i) (tCons (tTup (cA cs)) tNil))) Γ (.bool b) := fun H0 G H σ s gh Q q => by
  refine ⟨_, s.rf i a hi, ?_⟩
  refine cA_run cs _ ?_
  refine ⟨by rw [List.length_map]; exact Nat.le_trans hl (by decide), fun p hp => ?_⟩
  have e := Ext.own gh (o := .tup (cs.map V.ref)) hp
  refine ⟨D, p, cs.map V.ref, cs.map Value.ref, b, rfl, rfl, C, rfl, upd_same, ?_, hk, q _ _ _ e (.bl b)⟩
  clear hk hl
  induction cs with
  | nil => exact .nil
  | cons c r ih => exact .cons (.own c) (ih (Ext.own gh hp))
theorem any_no {D : Value} {c : Addr} {cs : List Addr} {r : Bool} (h : PySem.W.kitOne K D (.ref c) = some false) (hr : PySem.W.kitAny K D (cs.map Value.ref) = some r) : PySem.W.kitAny K D ((c :: cs).map Value.ref) = some r := by
  show PySem.W.kitAny K D (Value.ref c :: cs.map Value.ref) = some r
  unfold PySem.W.kitAny
  rw [h]
  exact hr
theorem any_nil {D : Value} : PySem.W.kitAny K D (([] : List Addr).map Value.ref) = some false := rfl
end
theorem bt_ValueError : bootBuiltins "ValueError" = some (.type "ValueError") := by decide +kernel
end PD
namespace PD
open PySem L2
theorem cls_some {K : PySem.W.Frag} {c : Addr} (hd : PySem.W.hasDictIn K c = true) (ht : PySem.W.typeIn K (.ref c) = some (.type "type")) : ((PySem.W.clsIn K c).isSome && PySem.W.typeIn K (.ref c) == some (.type "type")) = true := by
  obtain ⟨cd, hc, _⟩ := PySem.W.any_some hd
  rw [hc, ht] <;> rfl
theorem kit_own {K : PySem.W.Frag} {C c : Addr} {b : Bool} (hs : PySem.W.subIn K (.ref C) (.ref C) = some true) (h : PySem.W.subIn K (.ref C) (.ref c) = some b) (hd : PySem.W.hasDictIn K c = true) (ht : PySem.W.typeIn K (.ref c) = some (.type "type")) :
    PySem.W.kitOne K (.ref C) (.ref c) = some b := by
  have e2 : PySem.W.kitCls K (.ref C) (.ref c) = some b := by
    show (if ((PySem.W.clsIn K c).isSome && PySem.W.typeIn K (.ref c) == some (.type "type")) = true then PySem.W.subIn K (.ref C) (.ref c) else none) = some b
    rw [if_pos (cls_some hd ht)]
    exact h
  by_cases z : (Value.ref C == Value.ref c) = true
  · have e : C = c := Value.ref.inj (beq_iff_eq.mp z)
    subst e
    rw [hs] at h
    cases h
    unfold PySem.W.kitOne
    rw [if_pos z]
  · unfold PySem.W.kitOne
    rw [if_neg z]
    exact e2
theorem kit_ve {K : PySem.W.Frag} {C : Addr} (h : PySem.W.subIn K (.ref C) (.type "ValueError") = some true) : PySem.W.kitOne K (.ref C) (.type "ValueError") = some true := by
  have z : ¬ (Value.ref C == Value.type "ValueError") = true := fun z => nomatch (beq_iff_eq.mp z)
  have m : PySem.W.kitMeta "ValueError" = true := by decide +kernel
  unfold PySem.W.kitOne
  rw [if_neg z]
  show (if PySem.W.kitMeta "ValueError" = true then PySem.W.subIn K (.ref C) (.type "ValueError") else none) = some true
  rw [if_pos m]
  exact h
end PD

set_option Elab.async false
set_option linter.all false
set_option maxRecDepth 100000
set_option maxHeartbeats 1000000
/-! Texts. -/
namespace PD
open PySem L2
/-- a number's text -/
abbrev sI (i : Int) : Str := Str.ofString (toString i)
theorem sI_len {i : Int} {k : Nat} (hk : 0 < k) (h : i.natAbs < 10 ^ k) : (sI i).length ≤ k + 1 := by
  have e := int_text_length_le10 hk h
  show (Str.ofString (toString i)).length ≤ k + 1
  rw [ofString_length]
  exact e
theorem log_lt {i : Int} (h : i.natAbs < 10 ^ 100) : i.natAbs.log2 < 1920 := by
  by_cases z : i.natAbs = 0
  · rw [z]; decide
  · exact (Nat.log2_lt z).mpr (Nat.lt_of_lt_of_le h (by decide +kernel))
def tJoin (ts : List TE) : TE := fun σ H Q => tJs ts Str.empty σ H fun out H1 => Q (.str out) H1
def rJoin (K : PySem.W.Frag) : V → List V → Hp → VK → Prop := fun x xs H Q => ∃ a p, ∃ ys : List Str, x = .str a ∧ xs = [.ref p] ∧ (SqL K H p (ys.map V.str) ∨ SqT K H p (ys.map V.str)) ∧
    (ys.map (·.length)).sum + ys.length * a.length ≤ 16777216 ∧ Q (.str (Txt.join a ys)) H
abbrev tJoinL (K : PySem.W.Frag) (to te : TE) : TE := tBM K "str" (rJoin K) to (tCons te tNil)
def rSplit : V → List V → Hp → VK → Prop := fun x xs H Q => ∃ a b, x = .str a ∧ xs = [.str b] ∧ (b.length == 0) = false ∧ a.length + 2 ≤ sizeLine ∧ rNewStrs (Txt.split a b) H Q
abbrev tSplit (K : PySem.W.Frag) (to te : TE) : TE := tBM K "str" rSplit to (tCons te tNil)
section
variable {X : Cx} {v1 v2 e o : Expr} {rest : List Expr} {ts : List TE} {pos apos cpos : Pos} {to te : TE}
theorem p_joined (h : PJ X (v1 :: v2 :: rest) ts) : PE X (.JoinedStr (v1 :: v2 :: rest) pos) (tJoin ts) := pe_joined h
theorem m_join : MtR X "str.join" (rJoin X.K) := mt_join
theorem m_split : MtR X "str.split" rSplit := mt_split
end
section
variable {K : PySem.W.Frag} {Γ : Env} {ta tb te : TE} {ts : List TE}
def EvJ (K : PySem.W.Frag) (ts : List TE) (Γ : Env) (acc out : Str) : Prop := ∀ (H0 G H : Hp) (σ : St), Sat K H0 G H σ Γ → Same G H → ∀ Q : Str → Hp → Prop, (∀ G' H', Ext G H G' H' → Q out H') → tJs ts acc σ H Q
theorem ej_nil {acc : Str} : EvJ K [] Γ acc acc := fun H0 G H σ s gh Q q => q G H (Ext.refl gh)
theorem ej_cons {acc y out : Str} (h : EvD K te Γ (.str y)) (hl : acc.length + y.length ≤ 100000) (r : EvJ K ts Γ (acc ++ y) out) : EvJ K (te :: ts) Γ acc out := fun H0 G H σ s gh Q q => h H0 G H σ s gh _ fun v G1 H1 e1 a1 => by
  cases a1
  refine ⟨y, rfl, ?_, r H0 G1 H1 σ (s.ext e1) e1.gh Q fun G' H' e => q G' H' (e1.trans e)⟩
  rw [Str.length_append]
  exact Nat.le_trans hl (by decide)
theorem ev_joined {out : Str} (h : EvJ K ts Γ Str.empty out) : EvD K (tJoin ts) Γ (.str out) := fun H0 G H σ s gh Q q => h H0 G H σ s gh _ fun G' H' e => q _ G' H' e (.str _)
theorem ev_fmt {i : Int} (h : EvD K te Γ (.int i)) (hl : i.natAbs < 10 ^ 100) : EvD K (tFmt te) Γ (.str (sI i)) := fun H0 G H σ s gh Q q => h H0 G H σ s gh _ fun v G1 H1 e1 a1 => by
  cases a1
  exact .inr ⟨i, rfl, log_lt hl, q _ G1 H1 e1 (.str _)⟩
theorem ev_strI {i : Int} (h : EvD K te Γ (.int i)) (hl : i.natAbs < 10 ^ 100) : EvD K (tCB rStrI (tCons te tNil)) Γ (.str (sI i)) := ev_cb (ea_cons h ea_nil) fun G H vs gh a Q q => by
  cases a with
  | cons a1 a2 =>
    cases a2
    cases a1
    exact ⟨i, rfl, log_lt hl, q _ G H (Ext.refl gh) (.str _)⟩
theorem ev_join {sep : Str} {ys : List Str} (ha : EvD K ta Γ (.str sep)) (hb : EvD K tb Γ (.list (ys.map .str))) (hl : (ys.map (·.length)).sum + ys.length * sep.length ≤ 16777216) : EvD K (tJoinL K ta tb) Γ (.str (Txt.join sep ys)) := fun H0 G H σ s gh Q q =>
  ha H0 G H σ s gh _ fun v G1 H1 e1 a1 => by
    cases a1
    refine ⟨rfl, ?_⟩
    refine hb H0 G1 H1 σ (s.ext e1) e1.gh _ fun w G2 H2 e2 a2 => ?_
    cases a2 with
    | lst l1 l2 =>
      have e := l2.strs
      subst e
      exact ⟨sep, _, ys, rfl, rfl, .inl (SqL.of (e2.gh _ _ l1)), hl, q _ G2 H2 (e1.trans e2) (.str _)⟩
theorem eo_split {a b : Str} (ha : EvD K ta Γ (.str a)) (hb : EvD K tb Γ (.str b)) (h0 : (b.length == 0) = false) (hl : a.length ≤ 100000) : EvO K (tSplit K ta tb) Γ ((Txt.split a b).map .str) := fun H0 G H σ s gh Q q =>
  ha H0 G H σ s gh _ fun v G1 H1 e1 a1 => by
    cases a1
    refine ⟨rfl, ?_⟩
    refine hb H0 G1 H1 σ (s.ext e1) e1.gh _ fun w G2 H2 e2 a2 => ?_
    cases a2
    refine ⟨a, b, rfl, rfl, h0, Nat.le_trans (Nat.add_le_add_right hl 2) (by decide), fun p hp => ?_⟩
    have e12 := e1.trans e2
    exact q p _ G2 _ (e12.trans (Ext.own e2.gh hp)) (e12.hh.free hp) (e2.gh.free hp) upd_same (atAll_strs _)
theorem sum_len {ys : List Str} {k : Nat} (h : ∀ y ∈ ys, y.length ≤ k) : (ys.map (·.length)).sum ≤ ys.length * k := by
  induction ys with
  | nil => simp
  | cons y ys ih =>
    have h1 := h y List.mem_cons_self
    have h2 := ih fun z hz => h z (List.mem_cons_of_mem _ hz)
    rw [List.map_cons, List.sum_cons, List.length_cons, Nat.add_mul, Nat.one_mul]
    omega
end
end PD

set_option Elab.async false
set_option linter.all false
set_option maxRecDepth 100000
set_option maxHeartbeats 1000000
/-! roomshare/tables.py: the contracts and what the bodies do. -/
namespace PD
open PySem L2
/-- where the classes stand -/
structure CA where
  sh : Addr
  bt : Addr
  br : Addr
  be : Addr
  nb : Addr
  nd : Addr
  ho : Addr
abbrev li (ns : List Int) : PyData := .list (ns.map .int)
abbrev tb (rows : List (List Int)) : PyData := .list (rows.map li)
abbrev ln (R : List Nat) : PyData := .list (R.map fun r : Nat => .int (r : Int))

/-! ### kinds -/
def whole : PyData → Bool
  | .int _ => true
  | _ => false
def isInt : PyData → Bool
  | .int _ => true
  | .bool _ => true
  | _ => false
def isBool : PyData → Bool
  | .bool _ => true
  | _ => false
def isList : PyData → Bool
  | .list _ => true
  | .dict (_ :: _) => true
  | _ => false
def isTup : PyData → Bool
  | .tuple _ => true
  | _ => false
/-- anything but the script -/
def pd : PyData → Bool
  | .dict (_ :: _) => false
  | _ => true
theorem kit_int : ∀ d : PyData, kitB (tyD d) "int" = some (isInt d)
  | .none => by decide +kernel
  | .bool b => by show kitB "bool" "int" = some true; decide +kernel
  | .int i => by show kitB "int" "int" = some true; decide +kernel
  | .str s => by show kitB "str" "int" = some false; decide +kernel
  | .list xs => by show kitB "list" "int" = some false; decide +kernel
  | .tuple xs => by show kitB "tuple" "int" = some false; decide +kernel
  | .dict [] => by show kitB "dict" "int" = some false; decide +kernel
  | .dict (_ :: _) => by show kitB "list" "int" = some false; decide +kernel
theorem kit_bool : ∀ d : PyData, kitB (tyD d) "bool" = some (isBool d)
  | .none => by decide +kernel
  | .bool b => by show kitB "bool" "bool" = some true; decide +kernel
  | .int i => by show kitB "int" "bool" = some false; decide +kernel
  | .str s => by show kitB "str" "bool" = some false; decide +kernel
  | .list xs => by show kitB "list" "bool" = some false; decide +kernel
  | .tuple xs => by show kitB "tuple" "bool" = some false; decide +kernel
  | .dict [] => by show kitB "dict" "bool" = some false; decide +kernel
  | .dict (_ :: _) => by show kitB "list" "bool" = some false; decide +kernel
theorem kit_list : ∀ d : PyData, kitB (tyD d) "list" = some (isList d)
  | .none => by decide +kernel
  | .bool b => by show kitB "bool" "list" = some false; decide +kernel
  | .int i => by show kitB "int" "list" = some false; decide +kernel
  | .str s => by show kitB "str" "list" = some false; decide +kernel
  | .list xs => by show kitB "list" "list" = some true; decide +kernel
  | .tuple xs => by show kitB "tuple" "list" = some false; decide +kernel
  | .dict [] => by show kitB "dict" "list" = some false; decide +kernel
  | .dict (_ :: _) => by show kitB "list" "list" = some true; decide +kernel
theorem kit_tup : ∀ d : PyData, kitB (tyD d) "tuple" = some (isTup d)
  | .none => by decide +kernel
  | .bool b => by show kitB "bool" "tuple" = some false; decide +kernel
  | .int i => by show kitB "int" "tuple" = some false; decide +kernel
  | .str s => by show kitB "str" "tuple" = some false; decide +kernel
  | .list xs => by show kitB "list" "tuple" = some false; decide +kernel
  | .tuple xs => by show kitB "tuple" "tuple" = some true; decide +kernel
  | .dict [] => by show kitB "dict" "tuple" = some false; decide +kernel
  | .dict (_ :: _) => by show kitB "list" "tuple" = some false; decide +kernel
theorem whole_eq (d : PyData) : (isInt d && !isBool d) = whole d := by cases d <;> rfl
theorem of_whole {d : PyData} (h : whole d = true) : ∃ i, d = .int i := by
  cases d with
  | int i => exact ⟨i, rfl⟩
  | _ => cases h
theorem of_list {d : PyData} (h : isList d = true) (p : pd d = true) : ∃ xs, d = .list xs := by
  cases d with
  | list xs => exact ⟨xs, rfl⟩
  | dict kvs => cases kvs with
    | nil => cases h
    | cons a b => cases p
  | _ => cases h
section
variable {K : PySem.W.Frag} {c : CA} {E : XK} {Γ : Env} {ta tb : TE} {ds : List PyData} {r : Res}

/-! ### is_whole -/
def S_is_whole (c : CA) (ds : List PyData) (r : Res) : Prop := ∃ d, ds = [d] ∧ r = .ok (.bool (whole d))
abbrev t_is_whole (K : PySem.W.Frag) (c : CA) (E : XK) : TS :=
  (tRet (tAndV (tCB (rIsi K) (tCons (tVar 0) (tCons (tC (.ty "int")) tNil))) (tNotV (tCB (rIsi K) (tCons (tVar 0) (tCons (tC (.ty "bool")) tNil))))))
abbrev N_is_whole : List Str := ["thing"]
theorem ht_is_whole (h : S_is_whole c ds r) : HT K E (t_is_whole K c E) (env0 N_is_whole ds) (Post r) := by
  obtain ⟨d, rfl, rfl⟩ := h
  refine ht_ret (d := .bool (whole d)) (evd_eq (ev_and (ev_isi (ev_var rfl) (kit_int d)) fun _ => ev_not (ev_isi (ev_var rfl) (kit_bool d))) (by rw [whole_eq])) rfl
/-- is_whole(e) -/
theorem ev_whole {d : PyData} (h : EvD K ta Γ d) : EvD K (tCall (spOf K (S_is_whole c)) [] E (tCons ta tNil)) Γ (.bool (whole d)) := ev_call (ea_cons h ea_nil) ⟨d, rfl, rfl⟩

/-! ### is_row -/
def coinOk : PyData → Bool
  | .int i => decide (0 ≤ i) && decide (i ≤ 1000000)
  | _ => false
def isRow (d : PyData) (m : Nat) : Bool := match d with
  | .list xs => decide (xs.length = m) && xs.all coinOk
  | _ => false
def S_is_row (c : CA) (ds : List PyData) (r : Res) : Prop := ∃ (d : PyData) (m : Nat), ds = [d, .int (m : Int)] ∧ m ≤ 8 ∧ pd d = true ∧ r = .ok (.bool (isRow d m))
abbrev t_is_row (K : PySem.W.Frag) (c : CA) (E : XK) : TS :=
  (tSeq (tIfS (tOr (tNot (tB (tCB (rIsi K) (tCons (tVar 0) (tCons (tC (.ty "list")) tNil))))) (tTest (tOp (rNe2 K) (tCB (rLenV K) (tCons (tVar 0) tNil)) (tVar 1)))) (tRet (tC (.bl false))) tNext)
    (tRet (tCB (rAll K) (tCons (tLc (iList K (tVar 0)) (gName 2) tYes (tAndV (tCall (spOf K (S_is_whole c)) [] E0 (tCons (tVar 2) tNil)) (tChain rLeI rLeI (tC (.int 0)) (tVar 2) (tC (.int 1000000)))) [2]) tNil))))
abbrev N_is_row : List Str := ["row", "many", "coins"]
theorem ev_coin {x : PyData} {lo hi : TE} (h : EvD K ta Γ x) (h2 : EvD K ta Γ x) : EvD K (tAndV (tCall (spOf K (S_is_whole c)) [] E (tCons ta tNil)) (tChain rLeI rLeI (tC (.int 0)) ta (tC (.int 1000000)))) Γ (.bool (coinOk x)) := by
  by_cases w : whole x = true
  · obtain ⟨i, rfl⟩ := of_whole w
    exact evd_eq (ev_and (ev_whole h) fun _ => ev_leLe ev_int h ev_int) (by simp [whole, coinOk])
  · have w' : whole x = false := by simpa using w
    refine evd_eq (ev_and (b := false) (ev_whole h) fun e => ?_) ?_
    · rw [w'] at e; cases e
    · rw [w']; cases x <;> first | rfl | (exact absurd rfl w)
theorem ht_is_row (h : S_is_row c ds r) : HT K E (t_is_row K c E) (env0 N_is_row ds) (Post r) := by
  obtain ⟨d, m, rfl, hm, hp, rfl⟩ := h
  show HT K E _ [.da d, .da (.int (m : Int)), .no] _
  by_cases hl : isList d = true
  · obtain ⟨xs, rfl⟩ := of_list hl hp
    refine ht_seq (ht_if (et_or (et_not (et_B (ev_isi (ev_var rfl) (kit_list _)))) fun _ => et_test (ev_neI (ev_lenL (ev_var rfl)) (ev_var rfl))) (fun h => ?_) (fun h => ?_))
    · refine ht_ret ev_bl ?_
      have e : xs.length ≠ m := fun e => by simp [isList, e] at h
      show PyData.bool false = .bool (isRow (.list xs) m)
      simp [isRow, e]
    · have e : xs.length = m := by
        simp [isList] at h
        omega
      refine ht_next ?_
      refine ht_ret (d := .bool ((xs.map coinOk).all id)) (ev_all (ta := _) ?_) ?_
      · have q := eo_mapL (K := K) (Γ := [.da (.list xs), .da (.int (m : Int)), .no]) (j := 2) (tl := tVar 0) (te := (tAndV (tCall (spOf K (S_is_whole c)) [] E0 (tCons (tVar 2) tNil)) (tChain rLeI rLeI (tC (.int 0)) (tVar 2) (tC (.int 1000000))))) xs id (fun x => .bool (coinOk x)) (by rw [List.map_id]; exact ev_var rfl) (by omega)
          (fun x _ => ev_coin (lo := tVar 0) (hi := tVar 0) (ev_var rfl) (ev_var rfl))
        refine evd_eq q.toD ?_
        rw [List.map_map]; rfl
      · show PyData.bool _ = .bool _
        simp [isRow, e, List.all_map]
  · have hl' : isList d = false := by simpa using hl
    refine ht_seq (ht_if (b := true) (evt_eq (et_or (b := false) (et_not (et_B (ev_isi (ev_var rfl) (kit_list _)))) fun e => ?_) (by rw [hl']; rfl)) (fun _ => ?_) (fun z => nomatch z))
    · rw [hl'] at e; cases e
    · refine ht_ret ev_bl ?_
      show PyData.bool false = .bool (isRow d m)
      cases d with
      | list xs => cases hl'
      | _ => rfl

/-! ### need_table -/
def isTab (d : PyData) : Bool := match d with
  | .list xs => decide (1 ≤ xs.length) && decide (xs.length ≤ 8) && xs.all (isRow · xs.length)
  | _ => false
/-- what may be handed in as a table -/
def okT (d : PyData) : Prop := pd d = true ∧ ∀ xs, d = .list xs → ∀ x ∈ xs, pd x = true
def needTable (c : CA) (d : PyData) : Res := if isTab d = true then .ok .none else .er c.bt
def S_need_table (c : CA) (ds : List PyData) (r : Res) : Prop := ∃ d, ds = [d] ∧ okT d ∧ r = needTable c d
abbrev t_need_table (K : PySem.W.Frag) (c : CA) (E : XK) : TS :=
  (tSeq (tIfS (tOr (tNot (tB (tCB (rIsi K) (tCons (tVar 0) (tCons (tC (.ty "list")) tNil))))) (tNot (tTest (tChain rLeI rLeI (tC (.int 1)) (tCB (rLenV K) (tCons (tVar 0) tNil)) (tC (.int 8)))))) (tRaiseC c.bt E) tNext)
    (tFor (iList K (tVar 0)) (gName 1) (tIfS (tNot (tB (tCall (spOf K (S_is_row c)) [] E (tCons (tVar 1) (tCons (tCB (rLenV K) (tCons (tVar 0) tNil)) tNil))))) (tRaiseC c.bt E) tNext)))
abbrev N_need_table : List Str := ["wishes", "row"]
theorem ht_need_table (h : S_need_table c ds r) : HT K E (t_need_table K c E) (env0 N_need_table ds) (Post r) := by
  obtain ⟨d, rfl, ⟨hp, hq⟩, rfl⟩ := h
  show HT K E _ [.da d, .no] _
  have bad : isTab d = false → Post (needTable c d) (.ex c.bt) := fun h => by
    unfold needTable; rw [h]; rfl
  by_cases hl : isList d = true
  · obtain ⟨xs, rfl⟩ := of_list hl hp
    have hx := hq xs rfl
    refine ht_seq (ht_if (et_or (et_not (et_B (ev_isi (ev_var rfl) (kit_list _)))) fun _ => et_not (et_test (ev_leLe ev_int (ev_lenL (ev_var rfl)) ev_int))) (fun h => ?_) (fun h => ?_))
    · refine ht_raise (bad ?_)
      simp [isList] at h
      by_cases y : 1 ≤ xs.length
      · have : ¬ xs.length ≤ 8 := by omega
        simp [isTab, this]
      · simp [isTab, y]
    · simp [isList] at h
      obtain ⟨h1, h2⟩ := h
      have h1 : 1 ≤ xs.length := by omega
      have h2 : xs.length ≤ 8 := by omega
      refine ht_next ?_
      refine ht_forN xs id (fun i Γ' => (∃ s, Γ' = [.da (.list xs), s]) ∧ (xs.take i).all (isRow · xs.length) = true) (by rw [List.map_id]; exact ev_var rfl) ⟨⟨_, rfl⟩, rfl⟩ ?_ ?_
      · rintro i x Γ' hi ⟨⟨s, rfl⟩, ha⟩
        have hm : x ∈ xs := List.mem_of_getElem? hi
        refine ht_if (et_not (et_B (ev_call (ea_cons (ev_var rfl) (ea_cons (ev_lenL (ev_var rfl)) ea_nil)) ⟨x, xs.length, rfl, h2, hx x hm, rfl⟩))) (fun h => ?_) (fun h => ?_)
        · refine ht_raise (bad ?_)
          have hr : isRow x xs.length = false := by simpa using h
          have : xs.all (isRow · xs.length) = false := by
            rw [List.all_eq_false]
            exact ⟨x, hm, by rw [hr]; exact Bool.false_ne_true⟩
          simp [isTab, this]
        · refine ht_next ⟨⟨_, rfl⟩, ?_⟩
          have hr : isRow x xs.length = true := by simpa using h
          rw [take_more hi, List.all_append, ha]
          simp [hr]
      · rintro Γ' ⟨_, ha⟩
        rw [List.take_length] at ha
        show Post (needTable c (.list xs)) (.nx Γ')
        have e : isTab (.list xs) = true := by simp [isTab, h1, h2, ha]
        unfold needTable
        rw [if_pos e]
        rfl
  · have hl' : isList d = false := by simpa using hl
    refine ht_seq (ht_if (b := true) (evt_eq (et_or (b := false) (et_not (et_B (ev_isi (ev_var rfl) (kit_list _)))) fun e => ?_) (by rw [hl']; rfl)) (fun _ => ?_) (fun z => nomatch z))
    · rw [hl'] at e; cases e
    · refine ht_raise (bad ?_)
      cases d with
      | list xs => cases hl'
      | _ => rfl

/-! ### are_places -/
def plOk (m : Nat) (seen : List Int) : List PyData → Bool
  | [] => true
  | .int i :: r => decide (0 ≤ i) && decide (i < (m : Int)) && !decide (i ∈ seen) && plOk m (seen ++ [i]) r
  | _ :: _ => false
def isPlaces (d : PyData) (m : Nat) : Bool := match d with
  | .list xs => plOk m [] xs
  | _ => false
/-- what may be handed in as rooms, a ring -/
def okR (d : PyData) : Prop := pd d = true ∧ ∀ xs, d = .list xs → xs.length ≤ 10000
def S_are_places (c : CA) (ds : List PyData) (r : Res) : Prop := ∃ (d : PyData) (m : Nat), ds = [d, .int (m : Int)] ∧ okR d ∧ r = .ok (.bool (isPlaces d m))
abbrev t_are_places (K : PySem.W.Frag) (c : CA) (E : XK) : TS :=
  (tSeq (tIfS (tNot (tB (tCB (rIsi K) (tCons (tVar 0) (tCons (tC (.ty "list")) tNil))))) (tRet (tC (.bl false))) tNext)
    (tSeq (tAsg tDNewK (gName 2))
    (tSeq (tFor (iList K (tVar 0)) (gName 3) (tSeq (tIfS (tOr (tNot (tB (tCall (spOf K (S_is_whole c)) [] E (tCons (tVar 3) tNil)))) (tOr (tNot (tTest (tChain rLeI rLtI (tC (.int 0)) (tVar 3) (tVar 1)))) (tB (tDIn (tVar 3) (tVar 2))))) (tRet (tC (.bl false))) tNext)
    (sDPut (tVar 2) (tVar 3) (tC (.bl true)))))
    (tRet (tC (.bl true))))))
abbrev N_are_places : List Str := ["things", "many", "seen", "thing"]
theorem ht_are_places (h : S_are_places c ds r) : HT K E (t_are_places K c E) (env0 N_are_places ds) (Post r) := by
  obtain ⟨d, m, rfl, ⟨hp, hz⟩, rfl⟩ := h
  show HT K E _ [.da d, .da (.int (m : Int)), .no, .no] _
  by_cases hl : isList d = true
  · obtain ⟨xs, rfl⟩ := of_list hl hp
    have hz := hz xs rfl
    refine ht_seq (ht_if (et_not (et_B (ev_isi (ev_var rfl) (kit_list _)))) (fun h => by simp [isList] at h) fun _ => ht_next ?_)
    refine ht_seq (ht_asgK ?_)
    refine ht_seq (ht_forN xs id (fun i Γ' => ∃ ks s, Γ' = [.da (.list xs), .da (.int (m : Int)), .od ks, s] ∧ ks.length = i ∧ plOk m [] xs = plOk m ks (xs.drop i)) (by rw [List.map_id]; exact ev_var rfl) ⟨[], _, rfl, rfl, rfl⟩ ?_ ?_)
    · rintro i x Γ' hi ⟨ks, s, rfl, hk, he⟩
      obtain ⟨hil, hix⟩ := List.getElem?_eq_some_iff.mp hi
      have hd : xs.drop i = x :: xs.drop (i + 1) := by rw [List.drop_eq_getElem_cons hil, hix]
      rw [hd] at he
      show HT K E _ [.da (.list xs), .da (.int (m : Int)), .od ks, .da x] _
      by_cases w : whole x = true
      · obtain ⟨j, rfl⟩ := of_whole w
        have he' : plOk m [] xs = (decide (0 ≤ j) && decide (j < (m : Int)) && !decide (j ∈ ks) && plOk m (ks ++ [j]) (xs.drop (i + 1))) := he
        refine ht_seq (ht_if (et_or (et_not (et_B (ev_whole (ev_var rfl)))) fun _ => et_or (et_not (et_test (ev_leLt ev_int (ev_var rfl) (ev_var rfl)))) fun _ => et_B (ev_din rfl (ev_var rfl))) (fun h => ?_) (fun h => ?_))
        · refine ht_ret ev_bl ?_
          show PyData.bool false = .bool (plOk m [] xs)
          rw [he']
          simp [whole] at h
          by_cases y1 : 0 ≤ j
          · by_cases y2 : j < (m : Int)
            · have y3 : j ∈ ks := by
                rcases h with h | h
                · omega
                · exact h
              simp [y3]
            · simp [y2]
          · simp [y1]
        · simp [whole] at h
          obtain ⟨⟨h1, h2⟩, h3⟩ := h
          refine ht_next (ht_put rfl ev_bl (ev_var rfl) h3 (by omega) ⟨ks ++ [j], _, rfl, by simp [hk], ?_⟩)
          rw [he']
          simp [h1, h2, h3]
      · have w' : whole x = false := by simpa using w
        refine ht_seq (ht_if (b := true) (evt_eq (et_or (b := false) (et_not (et_B (ev_whole (ev_var rfl)))) fun e => ?_) (by rw [w']; rfl)) (fun _ => ?_) (fun z => nomatch z))
        · rw [w'] at e; cases e
        · refine ht_ret ev_bl ?_
          show PyData.bool false = .bool (plOk m [] xs)
          rw [he]
          cases x with
          | int j => cases w'
          | _ => rfl
    · rintro Γ' ⟨ks, s, rfl, hk, he⟩
      refine ht_ret ev_bl ?_
      show PyData.bool true = .bool (plOk m [] xs)
      rw [he, List.drop_length]
      rfl
  · have hl' : isList d = false := by simpa using hl
    refine ht_seq (ht_if (b := true) (evt_eq (et_not (et_B (ev_isi (ev_var rfl) (kit_list _)))) (by rw [hl']; rfl)) (fun _ => ?_) (fun z => nomatch z))
    refine ht_ret ev_bl ?_
    show PyData.bool false = .bool (isPlaces d m)
    cases d with
    | list xs => cases hl'
    | _ => rfl

/-! ### need_place -/
def placeOk (d : PyData) (m : Nat) : Bool := match d with
  | .int i => decide (0 ≤ i) && decide (i < (m : Int))
  | _ => false
def S_need_place (c : CA) (ds : List PyData) (r : Res) : Prop := ∃ (d : PyData) (m : Nat), ds = [d, .int (m : Int)] ∧ r = if placeOk d m = true then .ok .none else .er c.br
abbrev t_need_place (K : PySem.W.Frag) (c : CA) (E : XK) : TS :=
  (tIfS (tOr (tNot (tB (tCall (spOf K (S_is_whole c)) [] E (tCons (tVar 0) tNil)))) (tNot (tTest (tChain rLeI rLtI (tC (.int 0)) (tVar 0) (tVar 1))))) (tRaiseC c.br E) tNext)
abbrev N_need_place : List Str := ["thing", "many"]
theorem ht_need_place (h : S_need_place c ds r) : HT K E (t_need_place K c E) (env0 N_need_place ds) (Post r) := by
  obtain ⟨d, m, rfl, rfl⟩ := h
  show HT K E _ [.da d, .da (.int (m : Int))] _
  by_cases w : whole d = true
  · obtain ⟨j, rfl⟩ := of_whole w
    refine ht_if (et_or (et_not (et_B (ev_whole (ev_var rfl)))) fun _ => et_not (et_test (ev_leLt ev_int (ev_var rfl) (ev_var rfl)))) (fun h => ?_) (fun h => ?_)
    · have e : placeOk (.int j) m = false := by
        simp [whole] at h
        show (decide (0 ≤ j) && decide (j < (m : Int))) = false
        by_cases y : 0 ≤ j
        · simp; omega
        · simp [y]
      refine ht_raise ?_
      rw [e]; rfl
    · have e : placeOk (.int j) m = true := by
        simp [whole] at h
        show (decide (0 ≤ j) && decide (j < (m : Int))) = true
        simp [h]
      refine ht_next ?_
      rw [if_pos e]; rfl
  · have w' : whole d = false := by simpa using w
    refine ht_if (b := true) (evt_eq (et_or (b := false) (et_not (et_B (ev_whole (ev_var rfl)))) fun e => ?_) (by rw [w']; rfl)) (fun _ => ?_) (fun z => nomatch z)
    · rw [w'] at e; cases e
    · have e : placeOk d m = false := by
        cases d with
        | int j => cases w'
        | _ => rfl
      refine ht_raise ?_
      rw [e]; rfl

/-! ### need_rooms -/
def lenD : PyData → Nat
  | .list xs => xs.length
  | _ => 0
def roomsOk (w d : PyData) : Bool := isPlaces d (lenD w) && decide (lenD d = lenD w)
def needRooms (c : CA) (w d : PyData) : Res := if isTab w = true then (if roomsOk w d = true then .ok .none else .er c.br) else .er c.bt
def S_need_rooms (c : CA) (ds : List PyData) (r : Res) : Prop := ∃ w d, ds = [w, d] ∧ okT w ∧ okR d ∧ r = needRooms c w d
abbrev t_need_rooms (K : PySem.W.Frag) (c : CA) (E : XK) : TS :=
  (tSeq (tDrop (tCall (spOf K (S_need_table c)) [] E (tCons (tVar 0) tNil)))
    (tIfS (tOr (tNot (tB (tCall (spOf K (S_are_places c)) [] E (tCons (tVar 1) (tCons (tCB (rLenV K) (tCons (tVar 0) tNil)) tNil))))) (tTest (tOp (rNe2 K) (tCB (rLenV K) (tCons (tVar 1) tNil)) (tCB (rLenV K) (tCons (tVar 0) tNil))))) (tRaiseC c.br E) tNext))
abbrev N_need_rooms : List Str := ["wishes", "rooms"]
theorem ht_need_rooms (h : S_need_rooms c ds r) : HT K E (t_need_rooms K c E) (env0 N_need_rooms ds) (Post r) := by
  obtain ⟨w, d, rfl, hw, hd, rfl⟩ := h
  show HT K E _ [.da w, .da d] _
  by_cases ht : isTab w = true
  · have e1 : needTable c w = .ok .none := by unfold needTable; rw [if_pos ht]
    have e2 : needRooms c w d = if roomsOk w d = true then .ok .none else .er c.br := by unfold needRooms; rw [if_pos ht]
    obtain ⟨xs, rfl⟩ : ∃ xs, w = .list xs := by
      cases w with
      | list xs => exact ⟨xs, rfl⟩
      | _ => cases ht
    refine ht_seq (ht_drop (ev_call (ea_cons (ev_var rfl) ea_nil) ⟨_, rfl, hw, e1.symm⟩) ?_)
    have ep : EvD K (tCall (spOf K (S_are_places c)) [] E (tCons (tVar 1) (tCons (tCB (rLenV K) (tCons (tVar 0) tNil)) tNil))) [.da (.list xs), .da d] (.bool (isPlaces d xs.length)) :=
      ev_call (ea_cons (ev_var rfl) (ea_cons (ev_lenL (ev_var rfl)) ea_nil)) ⟨d, xs.length, rfl, hd, rfl⟩
    by_cases hi : isPlaces d xs.length = true
    · obtain ⟨ys, rfl⟩ : ∃ ys, d = .list ys := by
        cases d with
        | list xs => exact ⟨xs, rfl⟩
        | _ => cases hi
      refine ht_if (et_or (et_not (et_B ep)) fun _ => et_test (ev_neI (ev_lenL (ev_var rfl)) (ev_lenL (ev_var rfl)))) (fun h => ?_) (fun h => ?_)
      · refine ht_raise ?_
        have : roomsOk (.list xs) (.list ys) = false := by
          simp [hi] at h
          have h' : ys.length ≠ xs.length := by omega
          simp [roomsOk, lenD, hi, h']
        rw [e2, this]; rfl
      · refine ht_next ?_
        have : roomsOk (.list xs) (.list ys) = true := by
          simp [hi] at h
          have h' : ys.length = xs.length := by omega
          simp [roomsOk, lenD, hi, h'] at hi ⊢
          try exact hi
        rw [e2, if_pos this]; rfl
    · have hi' : isPlaces d xs.length = false := by simpa using hi
      refine ht_if (b := true) (evt_eq (et_or (b := false) (et_not (et_B ep)) fun e => ?_) (by rw [hi']; rfl)) (fun _ => ?_) (fun z => nomatch z)
      · rw [hi'] at e; cases e
      · refine ht_raise ?_
        have : roomsOk (.list xs) d = false := by simp [roomsOk, lenD, hi']
        rw [e2, this]; rfl
  · have ht' : isTab w = false := by simpa using ht
    have e1 : needTable c w = .er c.bt := by unfold needTable; rw [ht']; rfl
    have e2 : needRooms c w d = .er c.bt := by unfold needRooms; rw [ht']; rfl
    rw [e2]
    exact ht_seq (ht_dropX (ex_call (ea_cons (ev_var rfl) ea_nil) ⟨_, rfl, hw, e1.symm⟩) rfl)

/-! ### good tables, good rooms -/
structure Tab (W : List (List Int)) (n : Nat) : Prop where
  len : W.length = n
  lo : 1 ≤ n
  hi : n ≤ 8
  row : ∀ r ∈ W, r.length = n
  coin : ∀ r ∈ W, ∀ x ∈ r, 0 ≤ x ∧ x ≤ 1000000
structure Rms (R : List Nat) (n : Nat) : Prop where
  len : R.length = n
  lt : ∀ r ∈ R, r < n
  nd : R.Nodup
theorem isRow_li {ns : List Int} {n : Nat} (hl : ns.length = n) (h : ∀ x ∈ ns, 0 ≤ x ∧ x ≤ 1000000) : isRow (li ns) n = true := by
  show (decide ((ns.map PyData.int).length = n) && (ns.map PyData.int).all coinOk) = true
  rw [List.length_map, decide_eq_true hl, Bool.true_and, List.all_eq_true]
  intro d hd
  obtain ⟨x, hx, rfl⟩ := List.mem_map.mp hd
  show (decide (0 ≤ x) && decide (x ≤ 1000000)) = true
  simp [h x hx]
theorem Tab.is {W : List (List Int)} {n : Nat} (t : Tab W n) : isTab (PD.tb W) = true := by
  show (decide (1 ≤ (W.map li).length) && decide ((W.map li).length ≤ 8) && (W.map li).all (isRow · (W.map li).length)) = true
  rw [List.length_map, t.len, decide_eq_true t.lo, decide_eq_true t.hi, Bool.true_and, Bool.true_and, List.all_eq_true]
  intro d hd
  obtain ⟨x, hx, rfl⟩ := List.mem_map.mp hd
  exact isRow_li (t.row x hx) (t.coin x hx)
theorem okT_tb (W : List (List Int)) : okT (PD.tb W) := ⟨rfl, fun xs e x hx => by
  cases e
  obtain ⟨y, _, rfl⟩ := List.mem_map.mp hx
  rfl⟩
theorem Tab.need {W : List (List Int)} {n : Nat} (t : Tab W n) : S_need_table c [PD.tb W] (.ok .none) := ⟨_, rfl, okT_tb W, by unfold needTable; rw [if_pos t.is]⟩
theorem plOk_ln {m : Nat} : ∀ {R : List Nat} {seen : List Int}, (∀ r ∈ R, r < m) → R.Nodup → (∀ r ∈ R, ((r : Nat) : Int) ∉ seen) → plOk m seen (R.map fun r : Nat => .int (r : Int)) = true
  | [], _, _, _, _ => rfl
  | r :: R, seen, h1, h2, h3 => by
    rw [List.nodup_cons] at h2
    have a1 : r < m := h1 r List.mem_cons_self
    have a3 := h3 r List.mem_cons_self
    have ih := plOk_ln (m := m) (R := R) (seen := seen ++ [(r : Int)]) (fun x hx => h1 x (List.mem_cons_of_mem _ hx)) h2.2 (fun x hx hm => by
      rcases List.mem_append.mp hm with hm | hm
      · exact h3 x (List.mem_cons_of_mem _ hx) hm
      · have e : (x : Int) = (r : Int) := by simpa using hm
        have e' : x = r := by omega
        exact h2.1 (e' ▸ hx))
    show (decide (0 ≤ ((r : Nat) : Int)) && decide (((r : Nat) : Int) < (m : Int)) && !decide (((r : Nat) : Int) ∈ seen) && plOk m (seen ++ [((r : Nat) : Int)]) (R.map fun r : Nat => .int (r : Int))) = true
    rw [ih]
    have q1 : (0 : Int) ≤ (r : Int) := by omega
    have q2 : (r : Int) < (m : Int) := by omega
    simp [q1, q2, a3]
theorem okR_ln {R : List Nat} (h : R.length ≤ 10000) : okR (ln R) := ⟨rfl, fun xs e => by cases e; rw [List.length_map]; exact h⟩
theorem places_ln {R : List Nat} {m : Nat} (h1 : ∀ r ∈ R, r < m) (h2 : R.Nodup) : isPlaces (ln R) m = true := plOk_ln h1 h2 (fun _ _ h => nomatch h)
theorem Rms.ok {W : List (List Int)} {R : List Nat} {n : Nat} (t : Tab W n) (q : Rms R n) : roomsOk (PD.tb W) (ln R) = true := by
  unfold roomsOk
  have e1 : lenD (PD.tb W) = n := by show (W.map li).length = n; rw [List.length_map, t.len]
  have e2 : lenD (ln R) = n := by show (R.map _).length = n; rw [List.length_map, q.len]
  rw [e1, e2, places_ln q.lt q.nd]
  simp
theorem Rms.need {W : List (List Int)} {R : List Nat} {n : Nat} (t : Tab W n) (q : Rms R n) : S_need_rooms c [PD.tb W, ln R] (.ok .none) :=
  ⟨_, _, rfl, okT_tb W, okR_ln (by have := t.hi; rw [q.len]; omega), by unfold needRooms; rw [if_pos t.is, if_pos (q.ok t)]⟩
/-- one cell -/
def cell (W : List (List Int)) (i k : Nat) : Int := (W.getD i []).getD k 0
def gn (W : List (List Int)) (R : List Nat) (i j : Nat) : Int := cell W i (R.getD j 0) - cell W i (R.getD i 0)
theorem ev_row {W : List (List Int)} {i : Nat} (ha : EvD K ta Γ (PD.tb W)) (hb : EvD K tb Γ (.int (i : Int))) (h : i < W.length) : EvD K (tOp (rIx K) ta tb) Γ (li (W.getD i [])) :=
  ev_ixL ha hb (atI_map (f := li) (by omega) (by omega) [])
theorem ev_at {ns : List Int} {i : Nat} (ha : EvD K ta Γ (li ns)) (hb : EvD K tb Γ (.int (i : Int))) (h : i < ns.length) : EvD K (tOp (rIx K) ta tb) Γ (.int (ns.getD i 0)) :=
  ev_ixL ha hb (atI_map (f := PyData.int) (by omega) (by omega) 0)
theorem ev_room {R : List Nat} {i : Nat} (ha : EvD K ta Γ (ln R)) (hb : EvD K tb Γ (.int (i : Int))) (h : i < R.length) : EvD K (tOp (rIx K) ta tb) Γ (.int ((R.getD i 0 : Nat) : Int)) :=
  ev_ixL ha hb (atI_map (f := fun r : Nat => PyData.int (r : Int)) (by omega) (by omega) 0)
theorem getD_mem {α : Type} {l : List α} {i : Nat} {d : α} (h : i < l.length) : l.getD i d ∈ l := by
  rw [List.getD_eq_getElem?_getD, List.getElem?_eq_getElem h]; exact List.getElem_mem h
theorem Rms.at_lt {R : List Nat} {n i : Nat} (q : Rms R n) (h : i < n) : R.getD i 0 < n := q.lt _ (getD_mem (by rw [q.len]; exact h))
theorem Tab.row_len {W : List (List Int)} {n i : Nat} (t : Tab W n) (h : i < n) : (W.getD i []).length = n := t.row _ (getD_mem (by rw [t.len]; exact h))
theorem ev_cell {W : List (List Int)} {n i k : Nat} (t : Tab W n) {tw ti tk : TE} (hw : EvD K tw Γ (PD.tb W)) (hi : EvD K ti Γ (.int (i : Int))) (hk : EvD K tk Γ (.int (k : Int))) (h1 : i < n) (h2 : k < n) :
    EvD K (tOp (rIx K) (tOp (rIx K) tw ti) tk) Γ (.int (cell W i k)) := ev_at (ev_row hw hi (by rw [t.len]; exact h1)) hk (by rw [t.row_len h1]; exact h2)
theorem ev_roomOf {R : List Nat} {n i : Nat} (q : Rms R n) (ha : EvD K ta Γ (ln R)) (hb : EvD K tb Γ (.int (i : Int))) (h : i < n) : EvD K (tOp (rIx K) ta tb) Γ (.int ((R.getD i 0 : Nat) : Int)) := ev_room ha hb (by rw [q.len]; exact h)

/-! ### step, gain, total -/
def S_step (c : CA) (ds : List PyData) (r : Res) : Prop := ∃ (W : List (List Int)) (R : List Nat) (n i j : Nat), Tab W n ∧ Rms R n ∧ i < n ∧ j < n ∧ ds = [PD.tb W, ln R, .int (i : Int), .int (j : Int)] ∧ r = .ok (.int (gn W R i j))
abbrev t_step (K : PySem.W.Frag) (c : CA) (E : XK) : TS :=
  (tRet (tOp rSubI (tOp (rIx K) (tOp (rIx K) (tVar 0) (tVar 2)) (tOp (rIx K) (tVar 1) (tVar 3))) (tOp (rIx K) (tOp (rIx K) (tVar 0) (tVar 2)) (tOp (rIx K) (tVar 1) (tVar 2)))))
abbrev N_step : List Str := ["wishes", "rooms", "one", "other"]
theorem ht_step (h : S_step c ds r) : HT K E (t_step K c E) (env0 N_step ds) (Post r) := by
  obtain ⟨W, R, n, i, j, t, q, hi, hj, rfl, rfl⟩ := h
  show HT K E _ [.da (PD.tb W), .da (ln R), .da (.int (i : Int)), .da (.int (j : Int))] _
  exact ht_ret (ev_sub (ev_cell t (ev_var rfl) (ev_var rfl) (ev_roomOf q (ev_var rfl) (ev_var rfl) hj) hi (q.at_lt hj)) (ev_cell t (ev_var rfl) (ev_var rfl) (ev_roomOf q (ev_var rfl) (ev_var rfl) hi) hi (q.at_lt hi))) rfl
/-- what is refused ahead of all else -/
def S_ahead (c : CA) (ds : List PyData) (r : Res) : Prop := ∃ (w d : PyData) (rest : List PyData) (C : Addr), ds = w :: d :: rest ∧ okT w ∧ okR d ∧ needRooms c w d = .er C ∧ r = .er C
def S_gain (c : CA) (ds : List PyData) (r : Res) : Prop :=
  (∃ (W : List (List Int)) (R : List Nat) (n i j : Nat), Tab W n ∧ Rms R n ∧ i < n ∧ j < n ∧ ds = [PD.tb W, ln R, .int (i : Int), .int (j : Int)] ∧ r = .ok (.int (gn W R i j))) ∨
  (ds.length = 4 ∧ S_ahead c ds r) ∨
  (∃ (W : List (List Int)) (R : List Nat) (n : Nat) (a b : PyData), Tab W n ∧ Rms R n ∧ (placeOk a n = true → placeOk b n = false) ∧ ds = [PD.tb W, ln R, a, b] ∧ r = .er c.br)
abbrev t_gain (K : PySem.W.Frag) (c : CA) (E : XK) : TS :=
  (tSeq (tDrop (tCall (spOf K (S_need_rooms c)) [] E (tCons (tVar 0) (tCons (tVar 1) tNil))))
    (tSeq (tDrop (tCall (spOf K (S_need_place c)) [] E (tCons (tVar 2) (tCons (tCB (rLenV K) (tCons (tVar 1) tNil)) tNil))))
    (tSeq (tDrop (tCall (spOf K (S_need_place c)) [] E (tCons (tVar 3) (tCons (tCB (rLenV K) (tCons (tVar 1) tNil)) tNil))))
    (tRet (tCall (spOf K (S_step c)) [] E (tCons (tVar 0) (tCons (tVar 1) (tCons (tVar 2) (tCons (tVar 3) tNil)))))))))
abbrev N_gain : List Str := ["wishes", "rooms", "one", "other"]
theorem ht_gain (h : S_gain c ds r) : HT K E (t_gain K c E) (env0 N_gain ds) (Post r) := by
  rcases h with ⟨W, R, n, i, j, t, q, hi, hj, rfl, rfl⟩ | ⟨hl, w, d, rest, C, rfl, hw, hd, he, rfl⟩ | ⟨W, R, n, a, b, t, q, hab, rfl, rfl⟩
  · show HT K E _ [.da (PD.tb W), .da (ln R), .da (.int (i : Int)), .da (.int (j : Int))] _
    have el : (R.map fun r : Nat => PyData.int (r : Int)).length = n := by rw [List.length_map, q.len]
    refine ht_seq (ht_drop (ev_call (ea_cons (ev_var rfl) (ea_cons (ev_var rfl) ea_nil)) (q.need t)) ?_)
    have pl : ∀ k : Nat, k < n → placeOk (.int (k : Int)) n = true := fun k hk => by
      show (decide (0 ≤ (k : Int)) && decide ((k : Int) < (n : Int))) = true
      have : (0 : Int) ≤ (k : Int) := by omega
      have : (k : Int) < (n : Int) := by omega
      simp [*]
    refine ht_seq (ht_drop (ev_call (ea_cons (ev_var rfl) (ea_cons (ev_lenL (ev_var rfl)) ea_nil)) ⟨_, n, by rw [el], by rw [if_pos (pl i hi)]⟩) ?_)
    refine ht_seq (ht_drop (ev_call (ea_cons (ev_var rfl) (ea_cons (ev_lenL (ev_var rfl)) ea_nil)) ⟨_, n, by rw [el], by rw [if_pos (pl j hj)]⟩) ?_)
    exact ht_ret (ev_call (ea_cons (ev_var rfl) (ea_cons (ev_var rfl) (ea_cons (ev_var rfl) (ea_cons (ev_var rfl) ea_nil)))) ⟨W, R, n, i, j, t, q, hi, hj, rfl, rfl⟩) rfl
  · obtain ⟨a, b, rfl⟩ : ∃ a b, rest = [a, b] := by
      match rest, hl with
      | [a, b], _ => exact ⟨a, b, rfl⟩
    show HT K E _ [.da w, .da d, .da a, .da b] _
    exact ht_seq (ht_dropX (ex_call (ea_cons (ev_var rfl) (ea_cons (ev_var rfl) ea_nil)) ⟨w, d, rfl, hw, hd, he.symm⟩) rfl)
  · show HT K E _ [.da (PD.tb W), .da (ln R), .da a, .da b] _
    have el : (R.map fun r : Nat => PyData.int (r : Int)).length = n := by rw [List.length_map, q.len]
    refine ht_seq (ht_drop (ev_call (ea_cons (ev_var rfl) (ea_cons (ev_var rfl) ea_nil)) (q.need t)) ?_)
    by_cases pa : placeOk a n = true
    · refine ht_seq (ht_drop (ev_call (ea_cons (ev_var rfl) (ea_cons (ev_lenL (ev_var rfl)) ea_nil)) ⟨_, n, by rw [el], by rw [if_pos pa]⟩) ?_)
      exact ht_seq (ht_dropX (ex_call (ea_cons (ev_var rfl) (ea_cons (ev_lenL (ev_var rfl)) ea_nil)) ⟨_, n, by rw [el], by rw [hab pa]; rfl⟩) rfl)
    · exact ht_seq (ht_dropX (ex_call (ea_cons (ev_var rfl) (ea_cons (ev_lenL (ev_var rfl)) ea_nil)) ⟨_, n, by rw [el], by rw [if_neg pa]⟩) rfl)
/-- what all would give -/
def tot (W : List (List Int)) (R : List Nat) : Int := ((List.range R.length).map fun i => cell W i (R.getD i 0)).sum
def S_total (c : CA) (ds : List PyData) (r : Res) : Prop :=
  (∃ (W : List (List Int)) (R : List Nat) (n : Nat), Tab W n ∧ Rms R n ∧ ds = [PD.tb W, ln R] ∧ r = .ok (.int (tot W R))) ∨ (ds.length = 2 ∧ S_ahead c ds r)
abbrev t_total (K : PySem.W.Frag) (c : CA) (E : XK) : TS :=
  (tSeq (tDrop (tCall (spOf K (S_need_rooms c)) [] E (tCons (tVar 0) (tCons (tVar 1) tNil))))
    (tRet (tCB (rSum K) (tCons (tLc (iRng1 (tCons (tCB (rLenV K) (tCons (tVar 1) tNil)) tNil)) (gName 2) tYes (tOp (rIx K) (tOp (rIx K) (tVar 0) (tVar 2)) (tOp (rIx K) (tVar 1) (tVar 2))) [2]) tNil))))
abbrev N_total : List Str := ["wishes", "rooms", "one"]
theorem ht_total (h : S_total c ds r) : HT K E (t_total K c E) (env0 N_total ds) (Post r) := by
  rcases h with ⟨W, R, n, t, q, rfl, rfl⟩ | ⟨hl, w, d, rest, C, rfl, hw, hd, he, rfl⟩
  · show HT K E _ [.da (PD.tb W), .da (ln R), .no] _
    have hn := t.hi
    refine ht_seq (ht_drop (ev_call (ea_cons (ev_var rfl) (ea_cons (ev_var rfl) ea_nil)) (q.need t)) ?_)
    refine ht_ret (ev_sum (ns := (List.range R.length).map fun i => cell W i (R.getD i 0)) ?_) rfl
    have el : (R.map fun r : Nat => PyData.int (r : Int)).length = R.length := List.length_map ..
    have m := eo_mapR (K := K) (Γ := [.da (PD.tb W), .da (ln R), .no]) (j := 2) (ta := tCons (tCB (rLenV K) (tCons (tVar 1) tNil)) tNil) (te := tOp (rIx K) (tOp (rIx K) (tVar 0) (tVar 2)) (tOp (rIx K) (tVar 1) (tVar 2))) (n := (R.length : Int)) (fun i => .int (cell W i (R.getD i 0)))
      (ea_cons (evd_eq (ev_lenL (ev_var rfl)) (by rw [el])) ea_nil) (by rw [q.len]; omega) (fun i hi => by
        have hi' : i < n := by rw [← q.len]; omega
        exact ev_cell t (ev_var rfl) (ev_var rfl) (ev_roomOf q (ev_var rfl) (ev_var rfl) hi') hi' (q.at_lt hi'))
    refine evd_eq m.toD ?_
    rw [List.map_map, Int.toNat_natCast]
    rfl
  · obtain rfl : rest = [] := by
      match rest, hl with
      | [], _ => rfl
    show HT K E _ [.da w, .da d, .no] _
    exact ht_seq (ht_dropX (ex_call (ea_cons (ev_var rfl) (ea_cons (ev_var rfl) ea_nil)) ⟨w, d, rfl, hw, hd, he.symm⟩) rfl)
end
end PD

set_option Elab.async false
set_option linter.all false
set_option maxRecDepth 100000
set_option maxHeartbeats 1000000
/-! What the laws have in common. -/
namespace PD
open PySem L2
/-! ### shapes -/
theorem canLayAll_map {α : Type} {f : α → PyData} : ∀ {xs : List α}, (∀ x ∈ xs, (f x).canLay0 = true) → PyData.canLayAll0 (xs.map f) = true
  | [], _ => by simp [PyData.canLayAll0]
  | x :: xs, h => by
    rw [List.map_cons]
    simp [PyData.canLayAll0, h x List.mem_cons_self, canLayAll_map fun y hy => h y (List.mem_cons_of_mem _ hy)]
theorem depthAll_map {α : Type} {f : α → PyData} {k : Nat} : ∀ {xs : List α}, (∀ x ∈ xs, (f x).depth ≤ k) → PyData.depthAll (xs.map f) ≤ k
  | [], _ => by simp [PyData.depthAll]
  | x :: xs, h => by
    rw [List.map_cons]
    have h1 := h x List.mem_cons_self
    have h2 := depthAll_map (f := f) (k := k) (xs := xs) fun y hy => h y (List.mem_cons_of_mem _ hy)
    simp only [PyData.depthAll]
    omega
/-- a datum that may be compared, of at most that depth -/
def Shp (k : Nat) (d : PyData) : Prop := d.canLay0 = true ∧ d.depth ≤ k
theorem Shp.is {k : Nat} {d : PyData} (h : Shp k d) (hk : k ≤ 64 := by decide) : SeqAt.shaped d = true := by
  unfold SeqAt.shaped
  rw [h.1, Bool.true_and]
  exact decide_eq_true (Nat.le_trans h.2 hk)
theorem shp_int (i : Int) : Shp 0 (.int i) := ⟨by simp [PyData.canLay0], by simp [PyData.depth]⟩
theorem shp_none : Shp 0 .none := ⟨by simp [PyData.canLay0], by simp [PyData.depth]⟩
theorem shp_bool (b : Bool) : Shp 0 (.bool b) := ⟨by simp [PyData.canLay0], by simp [PyData.depth]⟩
theorem shp_list {α : Type} {f : α → PyData} {xs : List α} {k : Nat} (h : ∀ x ∈ xs, Shp k (f x)) : Shp (k + 1) (.list (xs.map f)) :=
  ⟨by simp only [PyData.canLay0]; exact canLayAll_map fun x hx => (h x hx).1, by simp only [PyData.depth]; have := depthAll_map fun x hx => (h x hx).2; omega⟩
theorem shp_listI {xs : List PyData} {k : Nat} (h : ∀ x ∈ xs, Shp k x) : Shp (k + 1) (.list xs) := by
  have := shp_list (f := id) (xs := xs) (k := k) h
  rwa [List.map_id] at this
theorem shp_tup {xs : List PyData} {k : Nat} (h : ∀ x ∈ xs, Shp k x) : Shp (k + 1) (.tuple xs) := by
  have := shp_listI h
  exact ⟨by simpa [PyData.canLay0] using this.1, by simpa [PyData.depth] using this.2⟩
theorem Shp.up {j k : Nat} {d : PyData} (h : Shp j d) (hk : j ≤ k) : Shp k d := ⟨h.1, Nat.le_trans h.2 hk⟩
theorem shp_li (ns : List Int) : Shp 1 (li ns) := shp_list fun x _ => shp_int x
theorem shp_tb (W : List (List Int)) : Shp 2 (tb W) := shp_list fun x _ => shp_li x
theorem shp_ln (R : List Nat) : Shp 1 (ln R) := shp_list fun x _ => shp_int _
theorem eqv_self {k : Nat} {d : PyData} (h : Shp k d) : PyData.eqv d d = true := SeqAt.eqv_refl d h.1
section
variable {K : PySem.W.Frag} {c : CA} {E : XK} {Γ : Env} {ta tb te : TE} {ds : List PyData} {r : Res}
/-- a != b of one and the same -/
theorem ev_neSelf {k : Nat} {d : PyData} (ha : EvD K ta Γ d) (hb : EvD K tb Γ d) (h : Shp k d) (hk : k ≤ 64 := by decide) : EvD K (tOp (rNe2 K) ta tb) Γ (.bool false) :=
  evd_eq (ev_neD ha hb (h.is hk) (h.is hk)) (by rw [eqv_self h]; rfl)
theorem ev_eqSelf {k : Nat} {d : PyData} (ha : EvD K ta Γ d) (hb : EvD K tb Γ d) (h : Shp k d) (hk : k ≤ 64 := by decide) : EvD K (tOp (rEq2 K) ta tb) Γ (.bool true) :=
  evd_eq (ev_eqD ha hb (h.is hk) (h.is hk)) (by rw [eqv_self h])

/-! ### _law_cell_at -/
def ce (ns : List Int) (k : Nat) : Int := ns.getD k 0
def S_law_cell_at (c : CA) (ds : List PyData) (r : Res) : Prop := ∃ (ns : List Int) (k : Nat), ds = [scr ns, .int (k : Int)] ∧ ns.length ≤ 63 ∧ r = .ok (.int (ce ns k))
abbrev t_law_cell_at (K : PySem.W.Frag) (c : CA) (E : XK) : TS :=
  (tSeq (tIfS (tTest (tOp rLtI (tVar 1) (tCB (rLenV K) (tCons (tVar 0) tNil)))) (tRet (tOp (rIx K) (tVar 0) (tVar 1))) tNext)
    (tRet (tC (.int 0))))
abbrev N_law_cell_at : List Str := ["_law_script", "_law_k"]
theorem ht_law_cell_at (h : S_law_cell_at c ds r) : HT K E (t_law_cell_at K c E) (env0 N_law_cell_at ds) (Post r) := by
  obtain ⟨ns, k, rfl, hn, rfl⟩ := h
  show HT K E _ [.da (scr ns), .da (.int (k : Int))] _
  refine ht_seq (ht_if (et_test (ev_lt (ev_var rfl) (ev_lenScr (ev_var rfl)))) (fun h => ?_) (fun h => ?_))
  · have h : k < ns.length := by have := of_decide_eq_true h; omega
    refine ht_ret (ev_ixScr (k := ce ns k) (ev_var rfl) (ev_var rfl) ?_) rfl
    have := atI_map (f := id) (xs := ns) (i := (k : Int)) (by omega) (by omega) 0
    rw [List.map_id] at this
    exact this
  · have h : ¬ k < ns.length := by have := of_decide_eq_false h; omega
    refine ht_next (ht_ret ev_int ?_)
    show PyData.int 0 = .int (ce ns k)
    unfold ce
    rw [List.getD_eq_getElem?_getD, List.getElem?_eq_none (by omega)]
    rfl
theorem ev_ce {ns : List Int} {k : Nat} (h1 : EvD K ta Γ (scr ns)) (h2 : EvD K tb Γ (.int (k : Int))) (hn : ns.length ≤ 63) : EvD K (tCall (spOf K (S_law_cell_at c)) [] E (tCons ta (tCons tb tNil))) Γ (.int (ce ns k)) :=
  ev_call (ea_cons h1 (ea_cons h2 ea_nil)) ⟨ns, k, rfl, hn, rfl⟩

/-! ### _law_coins_by -/
def coinsBy (x m : Int) : Int := if m = 0 then x % 1000001 else if m = 1 then x % 10 else if m = 2 then x % 2 * 1000000 else 999998 + x % 3
theorem coinsBy_ok (x m : Int) : 0 ≤ coinsBy x m ∧ coinsBy x m ≤ 1000000 := by
  unfold coinsBy
  split
  · omega
  · split
    · omega
    · split <;> omega
def S_law_coins_by (c : CA) (ds : List PyData) (r : Res) : Prop := ∃ x m : Int, ds = [.int x, .int m] ∧ r = .ok (.int (coinsBy x m))
abbrev t_law_coins_by (K : PySem.W.Frag) (c : CA) (E : XK) : TS :=
  (tSeq (tIfS (tTest (tOp (rEq2 K) (tVar 1) (tC (.int 0)))) (tRet (tOp rModI (tVar 0) (tC (.int 1000001)))) tNext)
    (tSeq (tIfS (tTest (tOp (rEq2 K) (tVar 1) (tC (.int 1)))) (tRet (tOp rModI (tVar 0) (tC (.int 10)))) tNext)
    (tSeq (tIfS (tTest (tOp (rEq2 K) (tVar 1) (tC (.int 2)))) (tRet (tOp rMul2 (tOp rModI (tVar 0) (tC (.int 2))) (tC (.int 1000000)))) tNext)
    (tRet (tOp rAdd3 (tC (.int 999998)) (tOp rModI (tVar 0) (tC (.int 3))))))))
abbrev N_law_coins_by : List Str := ["_law_cell", "_law_mode"]
theorem ht_law_coins_by (h : S_law_coins_by c ds r) : HT K E (t_law_coins_by K c E) (env0 N_law_coins_by ds) (Post r) := by
  obtain ⟨x, m, rfl, rfl⟩ := h
  show HT K E _ [.da (.int x), .da (.int m)] _
  refine ht_seq (ht_if (et_test (ev_eqI (ev_var rfl) ev_int)) (fun h => ?_) (fun h => ?_))
  · have h := of_decide_eq_true h
    refine ht_ret (ev_mod (ev_var rfl) ev_int (by decide)) ?_
    show PyData.int _ = .int (coinsBy x m)
    rw [coinsBy, if_pos h]
  have h0 := of_decide_eq_false h
  refine ht_next (ht_seq (ht_if (et_test (ev_eqI (ev_var rfl) ev_int)) (fun h => ?_) (fun h => ?_)))
  · have h := of_decide_eq_true h
    refine ht_ret (ev_mod (ev_var rfl) ev_int (by decide)) ?_
    show PyData.int _ = .int (coinsBy x m)
    rw [coinsBy, if_neg h0, if_pos h]
  have h1 := of_decide_eq_false h
  refine ht_next (ht_seq (ht_if (et_test (ev_eqI (ev_var rfl) ev_int)) (fun h => ?_) (fun h => ?_)))
  · have h := of_decide_eq_true h
    refine ht_ret (ev_mul (ev_mod (ev_var rfl) ev_int (by decide)) ev_int (.inr (by decide))) ?_
    show PyData.int _ = .int (coinsBy x m)
    rw [coinsBy, if_neg h0, if_neg h1, if_pos h]
  have h2 := of_decide_eq_false h
  refine ht_next (ht_ret (ev_add ev_int (ev_mod (ev_var rfl) ev_int (by decide))) ?_)
  show PyData.int _ = .int (coinsBy x m)
  rw [coinsBy, if_neg h0, if_neg h1, if_neg h2]

/-! ### _law_table_by -/
def mkTab (n : Nat) (f : Nat → Nat → Int) : List (List Int) := (List.range n).map fun i => (List.range n).map fun k => f i k
theorem mkTab_tab {n : Nat} {f : Nat → Nat → Int} (h1 : 1 ≤ n) (h8 : n ≤ 8) (hf : ∀ i k, 0 ≤ f i k ∧ f i k ≤ 1000000) : Tab (mkTab n f) n := by
  refine ⟨by simp [mkTab], h1, h8, fun r hr => ?_, fun r hr x hx => ?_⟩
  · obtain ⟨i, _, rfl⟩ := List.mem_map.mp hr
    simp
  · obtain ⟨i, _, rfl⟩ := List.mem_map.mp hr
    obtain ⟨k, _, rfl⟩ := List.mem_map.mp hx
    exact hf i k
def tableBy (ns : List Int) (n : Nat) : List (List Int) := mkTab n fun i k => coinsBy (ce ns (3 + (n * i + k) % 60)) (ce ns 1 % 4)
theorem tableBy_tab {ns : List Int} {n : Nat} (h1 : 1 ≤ n) (h8 : n ≤ 8) : Tab (tableBy ns n) n := mkTab_tab h1 h8 fun _ _ => coinsBy_ok _ _
def S_law_table_by (c : CA) (ds : List PyData) (r : Res) : Prop := ∃ (ns : List Int) (n : Nat), ds = [scr ns, .int (n : Int)] ∧ ns.length ≤ 63 ∧ n ≤ 8 ∧ r = .own ((tableBy ns n).map li)
abbrev t_law_table_by (K : PySem.W.Frag) (c : CA) (E : XK) : TS :=
  (tSeq (tAsg (tOp rModI (tCall (spOf K (S_law_cell_at c)) [] E (tCons (tVar 0) (tCons (tC (.int 1)) tNil))) (tC (.int 4))) (gName 2))
    (tSeq (tAsg (tLst tNil) (gName 3))
    (tSeq (tFor (iRng1 (tCons (tVar 1) tNil)) (gName 4) (tDrop (tBM K "list" rAppend (tVar 3) (tCons (tLc (iRng1 (tCons (tVar 1) tNil)) (gName 5) tYes (tCall (spOf K (S_law_coins_by c)) [] E0 (tCons (tCall (spOf K (S_law_cell_at c)) [] E0 (tCons (tVar 0) (tCons (tOp rAdd3 (tC (.int 3)) (tOp rModI (tOp rAdd3 (tOp rMul2 (tVar 1) (tVar 4)) (tVar 5)) (tC (.int 60)))) tNil))) (tCons (tVar 2) tNil))) [5]) tNil))))
    (tRet (tVar 3)))))
abbrev N_law_table_by : List Str := ["_law_script", "_law_many", "_law_mode", "_law_table", "_law_one", "_law_room"]
theorem range_take (n i : Nat) (h : i ≤ n) : (List.range n).take i = List.range i := by
  rw [List.take_range, Nat.min_eq_left h]
/-- a table that a loop fills row by row -/
theorem rows_more {n : Nat} {f : Nat → Nat → Int} (i : Nat) : ((mkTab n f).take i).map li = ((List.range n).take i).map fun i => li ((List.range n).map fun k => f i k) := by
  unfold mkTab
  rw [← List.map_take, List.map_map]; rfl
theorem ht_law_table_by (h : S_law_table_by c ds r) : HT K E (t_law_table_by K c E) (env0 N_law_table_by ds) (Post r) := by
  obtain ⟨ns, n, rfl, hn, h8, rfl⟩ := h
  show HT K E _ [.da (scr ns), .da (.int (n : Int)), .no, .no, .no, .no] _
  refine ht_seq (ht_asg (ev_mod (ev_ce (ev_var rfl) (k := 1) ev_int hn) ev_int (by decide)) ?_)
  refine ht_seq (ht_asgO (eo_lst ea_nil (by decide)) ?_)
  refine ht_seq (ht_forR (n := (n : Int)) (fun i Γ' => ∃ s, Γ' = [.da (scr ns), .da (.int (n : Int)), .da (.int (ce ns 1 % 4)), .ow ((List.range i).map fun i => li ((List.range n).map fun k => coinsBy (ce ns (3 + (n * i + k) % 60)) (ce ns 1 % 4))), s, .no])
    (ea_cons (ev_var rfl) ea_nil) (by omega) ⟨_, rfl⟩ ?_ ?_)
  · rintro i Γ' hi ⟨s, rfl⟩
    have hi : i < n := by omega
    show HT K E _ [.da (scr ns), .da (.int (n : Int)), .da (.int (ce ns 1 % 4)), .ow _, .da (.int (i : Int)), .no] _
    refine ht_app rfl (EvO.toD (eo_mapR (j := 5) (n := (n : Int)) (fun k => .int (coinsBy (ce ns (3 + (n * i + k) % 60)) (ce ns 1 % 4))) (ea_cons (ev_var rfl) ea_nil) (by omega) fun k hk => ?_)) (by simp; omega) ⟨.da (.int (i : Int)), ?_⟩
    · refine ev_call (ea_cons (ev_ce (k := 3 + (n * i + k) % 60) (ev_var rfl) (evd_eq (ev_add ev_int (ev_mod (ev_add (ev_mul (ev_var rfl) (ev_var rfl) (.inl (by omega))) (ev_var rfl)) ev_int (by decide))) ?_) hn) (ea_cons (ev_var rfl) ea_nil)) ⟨_, _, rfl, rfl⟩
      exact congrArg PyData.int (by push_cast; rfl)
    · rw [List.range_succ, List.map_append, Int.toNat_natCast]
      simp [li, List.map_map, Function.comp_def]
  · rintro Γ' ⟨s, rfl⟩
    refine ht_retS rfl ?_
    show _ = List.map li (tableBy ns n)
    rw [Int.toNat_natCast]
    unfold tableBy mkTab
    rw [List.map_map]; rfl

/-! ### _law_rooms_by -/
def dealGo : Nat → Int → List Nat → List Nat
  | 0, _, _ => []
  | k + 1, x, left => left.getD (x % ((k + 1 : Nat) : Int)).toNat 0 :: dealGo k (x / ((k + 1 : Nat) : Int)) (left.eraseIdx (x % ((k + 1 : Nat) : Int)).toNat)
def roomsBy (x : Int) (n : Nat) : List Nat := dealGo n x (List.range n)
theorem map_erase {α β : Type} (f : α → β) : ∀ (l : List α) (i : Nat), (l.map f).eraseIdx i = (l.eraseIdx i).map f
  | [], _ => rfl
  | _ :: _, 0 => rfl
  | a :: l, i + 1 => by
    show f a :: (l.map f).eraseIdx i = f a :: (l.eraseIdx i).map f
    rw [map_erase f l i]
theorem perm_erase {α : Type} : ∀ {l : List α} {i : Nat} {d : α}, i < l.length → (l.getD i d :: l.eraseIdx i).Perm l
  | [], i, d, h => absurd h (Nat.not_lt_zero _)
  | a :: l, 0, d, h => .refl _
  | a :: l, i + 1, d, h => by
    have ih := perm_erase (l := l) (i := i) (d := d) (by simpa using h)
    show (l.getD i d :: a :: l.eraseIdx i).Perm (a :: l)
    exact (List.Perm.swap ..).trans (ih.cons a)
theorem deal_ix {x : Int} {k : Nat} : (x % ((k + 1 : Nat) : Int)).toNat < k + 1 ∧ (((x % ((k + 1 : Nat) : Int)).toNat : Nat) : Int) = x % ((k + 1 : Nat) : Int) := by
  have h1 := Int.emod_nonneg x (b := ((k + 1 : Nat) : Int)) (by omega)
  have h2 := Int.emod_lt_of_pos x (b := ((k + 1 : Nat) : Int)) (by omega)
  omega
theorem dealGo_perm : ∀ {k : Nat} {x : Int} {left : List Nat}, left.length = k → (dealGo k x left).Perm left
  | 0, x, left, h => by
    have : left = [] := List.length_eq_zero_iff.mp h
    subst this; exact .refl _
  | k + 1, x, left, h => by
    have hi : (x % ((k + 1 : Nat) : Int)).toNat < left.length := by rw [h]; exact deal_ix.1
    have ih := dealGo_perm (k := k) (x := x / ((k + 1 : Nat) : Int)) (left := left.eraseIdx (x % ((k + 1 : Nat) : Int)).toNat) (by rw [List.length_eraseIdx_of_lt hi]; omega)
    exact (ih.cons _).trans (perm_erase hi)
theorem roomsBy_rms (x : Int) (n : Nat) : Rms (roomsBy x n) n := by
  have p : (roomsBy x n).Perm (List.range n) := dealGo_perm (by simp)
  exact ⟨by rw [p.length_eq]; simp, fun r hr => by simpa using (p.mem_iff.mp hr), p.nodup_iff.mpr List.nodup_range⟩
def S_law_rooms_by (c : CA) (ds : List PyData) (r : Res) : Prop := ∃ (x : Int) (n : Nat), ds = [.int x, .int (n : Int)] ∧ n ≤ 8 ∧ r = .own ((roomsBy x n).map fun r : Nat => .int (r : Int))
abbrev t_law_rooms_by (K : PySem.W.Frag) (c : CA) (E : XK) : TS :=
  (tSeq (tAsg (tLstRg (tRg1 (tVar 1))) (gName 2))
    (tSeq (tAsg (tLst tNil) (gName 3))
    (tSeq (tWhile (tTest (tOp rGtI (tCB (rLenV K) (tCons (tVar 2) tNil)) (tC (.int 0)))) (tSeq (tDrop (tBM K "list" rAppend (tVar 3) (tCons (tBM K "list" rPopAt (tVar 2) (tCons (tOp rModI (tVar 0) (tCB (rLenV K) (tCons (tVar 2) tNil))) tNil)) tNil)))
    (tAsg (tOp rDivI (tVar 0) (tOp rAdd3 (tCB (rLenV K) (tCons (tVar 2) tNil)) (tC (.int 1)))) (gName 0))))
    (tRet (tVar 3)))))
abbrev N_law_rooms_by : List Str := ["_law_cell", "_law_many", "_law_left", "_law_rooms"]
theorem ht_law_rooms_by (h : S_law_rooms_by c ds r) : HT K E (t_law_rooms_by K c E) (env0 N_law_rooms_by ds) (Post r) := by
  obtain ⟨x, n, rfl, h8, rfl⟩ := h
  show HT K E _ [.da (.int x), .da (.int (n : Int)), .no, .no] _
  refine ht_seq (ht_asgO (eo_listRg (n := (n : Int)) (ev_var rfl) (by omega)) ?_)
  refine ht_seq (ht_asgO (eo_lst ea_nil (by decide)) ?_)
  refine ht_seq (ht_while (m0 := n) (fun m Γ' => ∃ (y : Int) (left done : List Nat), left.length = m ∧ m ≤ 8 ∧ done.length ≤ 8 ∧ done.length + m = n ∧ done ++ dealGo m y left = roomsBy x n ∧
      Γ' = [.da (.int y), .da (.int (n : Int)), .ow (left.map fun r : Nat => .int (r : Int)), .ow (done.map fun r : Nat => .int (r : Int))]) ⟨x, List.range n, [], by simp, h8, by simp, by simp, rfl, ?_⟩ ?_)
  · rw [Int.toNat_natCast]; rfl
  · rintro m Γ' ⟨y, left, done, hl, hm, hd, hdm, he, rfl⟩
    refine ⟨_, et_frz (et_test (ev_gt (ev_lenL (ev_var rfl)) ev_int)), fun h => ?_, fun h => ?_⟩
    · rw [List.length_map] at h
      have h := of_decide_eq_true h
      obtain ⟨k, rfl⟩ : ∃ k, m = k + 1 := ⟨m - 1, by omega⟩
      have ix := deal_ix (x := y) (k := k)
      have hlen : ((left.map fun r : Nat => PyData.int (r : Int)).length : Int) = ((k + 1 : Nat) : Int) := by rw [List.length_map, hl]
      refine ht_seq (ht_appPop (k := y % ((k + 1 : Nat) : Int)) (d := .int ((left.getD (y % ((k + 1 : Nat) : Int)).toNat 0 : Nat) : Int)) (by decide) rfl rfl (ev_frz (evd_eq (ev_mod (ev_var rfl) (ev_lenL (ev_var rfl)) (by rw [hlen]; omega)) (by rw [hlen]))) (by omega) ?_ (by rw [List.length_map]; omega) (by rw [List.length_map]; omega) ?_)
      · rw [List.getElem?_map, List.getD_eq_getElem?_getD, List.getElem?_eq_getElem (by rw [hl]; exact ix.1)]
        rfl
      · have el : (left.eraseIdx (y % ((k + 1 : Nat) : Int)).toNat).length = k := by rw [List.length_eraseIdx_of_lt (by rw [hl]; exact ix.1)]; omega
        show HT K E _ [.da (.int y), .da (.int (n : Int)), .ow ((left.map fun r : Nat => PyData.int (r : Int)).eraseIdx (y % ((k + 1 : Nat) : Int)).toNat), .ow (done.map (fun r : Nat => PyData.int (r : Int)) ++ [.int ((left.getD (y % ((k + 1 : Nat) : Int)).toNat 0 : Nat) : Int)])] _
        have el2 : (((left.map fun r : Nat => PyData.int (r : Int)).eraseIdx (y % ((k + 1 : Nat) : Int)).toNat).length : Int) = (k : Int) := by
          rw [map_erase, List.length_map, el]
        refine ht_asg (d := .int (y / ((k + 1 : Nat) : Int))) (ev_frz (evd_eq (ev_div (ev_var rfl) (ev_add (ev_lenL (ev_var rfl)) ev_int) (by rw [el2]; unfold CDiv; omega)) (by rw [el2]; rfl))) ?_
        refine ⟨k, by omega, y / ((k + 1 : Nat) : Int), left.eraseIdx (y % ((k + 1 : Nat) : Int)).toNat, done ++ [left.getD (y % ((k + 1 : Nat) : Int)).toNat 0], el, by omega, by rw [List.length_append]; simp; omega, by rw [List.length_append]; simp; omega, ?_, ?_⟩
        · rw [← he, List.append_assoc]; rfl
        · rw [List.map_append, ← map_erase]; rfl
    · rw [List.length_map] at h
      have h := of_decide_eq_false h
      have hm0 : m = 0 := by omega
      subst hm0
      have hd0 : done = roomsBy x n := by rw [← he]; simp [dealGo]
      subst hd0
      exact ht_retS rfl rfl

/-! ### _law_whole -/
def S_law_whole (c : CA) (ds : List PyData) (r : Res) : Prop := ∃ d, ds = [d] ∧ r = .ok (.bool (whole d))
abbrev t_law_whole (K : PySem.W.Frag) (c : CA) (E : XK) : TS :=
  (tRet (tAndV (tCB (rIsi K) (tCons (tVar 0) (tCons (tC (.ty "int")) tNil))) (tNotV (tCB (rIsi K) (tCons (tVar 0) (tCons (tC (.ty "bool")) tNil))))))
abbrev N_law_whole : List Str := ["_law_found"]
theorem ht_law_whole (h : S_law_whole c ds r) : HT K E (t_law_whole K c E) (env0 N_law_whole ds) (Post r) := by
  obtain ⟨d, rfl, rfl⟩ := h
  refine ht_ret (d := .bool (whole d)) (evd_eq (ev_and (ev_isi (ev_var rfl) (kit_int d)) fun _ => ev_not (ev_isi (ev_var rfl) (kit_bool d))) (by rw [whole_eq])) rfl
theorem ev_wholeL {d : PyData} (h : EvD K ta Γ d) : EvD K (tCall (spOf K (S_law_whole c)) [] E (tCons ta tNil)) Γ (.bool (whole d)) := ev_call (ea_cons h ea_nil) ⟨d, rfl, rfl⟩
/-- [list(row) for row in table] -/
theorem eo_copy {j : Nat} {W : List (List Int)} (h : EvD K te Γ (PD.tb W)) (hj : j < Γ.length) (hz : W.length ≤ 100000) : EvO K (tLc (iList K te) (gName j) tYes (tCB (rListV K) (tCons (tVar j) tNil)) [j]) Γ (W.map li) :=
  eo_mapL W li li h hz fun x _ => (eo_list (ev_var (by rw [List.getElem?_set_self (by simp [wipeE]; exact hj)]))).toD
end
end PD

set_option Elab.async false
set_option linter.all false
set_option maxRecDepth 100000
set_option maxHeartbeats 1000000
/-! roomshare/rings.py: the contracts and what the bodies do. -/
namespace PD
open PySem L2
abbrev lnL (R : List Nat) : List PyData := R.map fun r : Nat => .int (r : Int)
section
variable {K : PySem.W.Frag} {c : CA} {E : XK} {Γ : Env} {ta tb te : TE} {ds : List PyData} {r : Res}
/-! ### turned -/
structure Ring (Q : List Nat) (n : Nat) : Prop where
  lt : ∀ q ∈ Q, q < n
  nd : Q.Nodup
  two : 2 ≤ Q.length
def turnGo (R Q : List Nat) : Nat → List Nat
  | 0 => R
  | p + 1 => (turnGo R Q p).set (Q.getD p 0) (R.getD (Q.getD ((p + 1) % Q.length) 0) 0)
def turn (R Q : List Nat) : List Nat := turnGo R Q Q.length
def turnOk (d e : PyData) : Bool := decide (1 ≤ lenD d) && decide (lenD d ≤ 8) && isPlaces d (lenD d) && isPlaces e (lenD d) && decide (2 ≤ lenD e)
def S_turned (c : CA) (ds : List PyData) (r : Res) : Prop :=
  (∃ (R Q : List Nat) (n : Nat), Rms R n ∧ 1 ≤ n ∧ n ≤ 8 ∧ Ring Q n ∧ ds = [ln R, ln Q] ∧ r = .own (lnL (turn R Q))) ∨
  (∃ d e, ds = [d, e] ∧ okR d ∧ okR e ∧ turnOk d e = false ∧ r = .er c.br)
theorem turnGo_len (R Q : List Nat) : ∀ k, (turnGo R Q k).length = R.length
  | 0 => rfl
  | k + 1 => by simp [turnGo, turnGo_len R Q k]
theorem nodup_le : ∀ {n : Nat} {Q : List Nat}, (∀ q ∈ Q, q < n) → Q.Nodup → Q.length ≤ n
  | 0, Q, h1, _ => by
    cases Q with
    | nil => exact Nat.le_refl _
    | cons q Q => exact absurd (h1 q List.mem_cons_self) (Nat.not_lt_zero _)
  | n + 1, Q, h1, h2 => by
    have ih := nodup_le (n := n) (Q := Q.erase n) (fun q hq => by
      have h := (List.Nodup.mem_erase_iff h2).mp hq
      have := h1 q h.2
      have := h.1
      omega) (h2.erase n)
    by_cases hm : n ∈ Q
    · rw [List.length_erase_of_mem hm] at ih; omega
    · rw [List.erase_of_not_mem hm] at ih; omega
theorem Ring.le {Q : List Nat} {n : Nat} (g : Ring Q n) : Q.length ≤ n := nodup_le g.lt g.nd
abbrev t_turned (K : PySem.W.Frag) (c : CA) (E : XK) : TS :=
  (tSeq (tIfS (tOr (tNot (tB (tCB (rIsi K) (tCons (tVar 0) (tCons (tC (.ty "list")) tNil))))) (tOr (tNot (tTest (tChain rLeI rLeI (tC (.int 1)) (tCB (rLenV K) (tCons (tVar 0) tNil)) (tC (.int 8))))) (tNot (tB (tCall (spOf K (S_are_places c)) [] E (tCons (tVar 0) (tCons (tCB (rLenV K) (tCons (tVar 0) tNil)) tNil))))))) (tRaiseC c.br E) tNext)
    (tSeq (tIfS (tOr (tNot (tB (tCall (spOf K (S_are_places c)) [] E (tCons (tVar 1) (tCons (tCB (rLenV K) (tCons (tVar 0) tNil)) tNil))))) (tTest (tOp rLtI (tCB (rLenV K) (tCons (tVar 1) tNil)) (tC (.int 2))))) (tRaiseC c.br E) tNext)
    (tSeq (tAsg (tCB (rListV K) (tCons (tVar 0) tNil)) (gName 2))
    (tSeq (tFor (iRng1 (tCons (tCB (rLenV K) (tCons (tVar 1) tNil)) tNil)) (gName 3) (tAsg (tOp (rIx K) (tVar 0) (tOp (rIx K) (tVar 1) (tOp rModI (tOp rAdd3 (tVar 3) (tC (.int 1))) (tCB (rLenV K) (tCons (tVar 1) tNil))))) (gSub (tVar 2) (tOp (rIx K) (tVar 1) (tVar 3)) rSetL)))
    (tRet (tVar 2))))))
abbrev N_turned : List Str := ["rooms", "ring", "found", "place"]
theorem of_places : ∀ {xs : List PyData} {m : Nat} {seen : List Int}, plOk m seen xs = true → ∃ R : List Nat, xs = lnL R ∧ (∀ r ∈ R, r < m ∧ ((r : Nat) : Int) ∉ seen) ∧ R.Nodup
  | [], m, seen, _ => ⟨[], rfl, fun _ h => (nomatch h), List.nodup_nil⟩
  | x :: xs, m, seen, h => by
    cases x with
    | int i =>
      have h' : ((0 ≤ i ∧ i < (m : Int)) ∧ ¬ i ∈ seen) ∧ plOk m (seen ++ [i]) xs = true := by simpa [plOk] using h
      obtain ⟨⟨⟨h1, h2⟩, h3⟩, h4⟩ := h'
      obtain ⟨R, rfl, h5, h6⟩ := of_places h4
      have ei : ((i.toNat : Nat) : Int) = i := by omega
      refine ⟨i.toNat :: R, by show _ = PyData.int _ :: _; rw [ei], fun r hr => ?_, List.nodup_cons.mpr ⟨fun hm => ?_, h6⟩⟩
      · rcases List.mem_cons.mp hr with e | e
        · subst e; exact ⟨by omega, by rw [ei]; exact h3⟩
        · exact ⟨(h5 r e).1, fun z => (h5 r e).2 (List.mem_append.mpr (.inl z))⟩
      · exact (h5 _ hm).2 (List.mem_append.mpr (.inr (by rw [ei]; exact List.mem_singleton.mpr rfl)))
    | _ => cases h
theorem isPlaces_of {d : PyData} {m : Nat} (h : isPlaces d m = true) : ∃ R : List Nat, d = ln R ∧ (∀ r ∈ R, r < m) ∧ R.Nodup := by
  cases d with
  | list xs =>
    obtain ⟨R, rfl, h1, h2⟩ := of_places h
    exact ⟨R, rfl, fun r hr => (h1 r hr).1, h2⟩
  | _ => cases h
theorem ht_turned (h : S_turned c ds r) : HT K E (t_turned K c E) (env0 N_turned ds) (Post r) := by
  rcases h with ⟨R, Q, n, q, n1, n8, g, rfl, rfl⟩ | ⟨d, e, rfl, hd, he, hk, rfl⟩
  · show HT K E _ [.da (ln R), .da (ln Q), .no, .no] _
    have lR : (lnL R).length = n := by rw [List.length_map, q.len]
    have lQ : (lnL Q).length = Q.length := by rw [List.length_map]
    have gl := g.le
    have g2 := g.two
    refine ht_seq (ht_if (b := false) (evt_eq (et_or (et_not (et_B (ev_isi (ev_var rfl) (kit_list _)))) fun _ => et_or (et_not (et_test (ev_leLe ev_int (ev_lenL (ev_var rfl)) ev_int))) fun _ => et_not (et_B (ev_call (ea_cons (ev_var rfl) (ea_cons (ev_lenL (ev_var rfl)) ea_nil)) ⟨ln R, n, by rw [lR], okR_ln (by rw [q.len]; omega), rfl⟩))) ?_) (fun z => nomatch z) fun _ => ht_next ?_)
    · rw [places_ln q.lt q.nd, lR]
      simp [isList]; omega
    refine ht_seq (ht_if (b := false) (evt_eq (et_or (et_not (et_B (ev_call (ea_cons (ev_var rfl) (ea_cons (ev_lenL (ev_var rfl)) ea_nil)) ⟨ln Q, n, by rw [lR], okR_ln (by omega), rfl⟩))) fun _ => et_test (ev_lt (ev_lenL (ev_var rfl)) ev_int)) ?_) (fun z => nomatch z) fun _ => ht_next ?_)
    · rw [places_ln g.lt g.nd, lQ]
      simp; omega
    refine ht_seq (ht_asgO (eo_list (ev_var rfl)) ?_)
    refine ht_seq (ht_forR (n := (Q.length : Int)) (fun i Γ' => ∃ s, Γ' = [.da (ln R), .da (ln Q), .ow (lnL (turnGo R Q i)), s]) (ea_cons (evd_eq (ev_lenL (ev_var rfl)) (by rw [lQ])) ea_nil) (by omega) ⟨_, rfl⟩ ?_ ?_)
    · rintro i Γ' hi ⟨s, rfl⟩
      have hi : i < Q.length := by omega
      show HT K E _ [.da (ln R), .da (ln Q), .ow (lnL (turnGo R Q i)), .da (.int (i : Int))] _
      have hm : (i + 1) % Q.length < Q.length := Nat.mod_lt _ (by omega)
      have a1 : Q.getD i 0 < n := g.lt _ (getD_mem hi)
      have a2 : Q.getD ((i + 1) % Q.length) 0 < n := g.lt _ (getD_mem hm)
      refine ht_set (k := ((Q.getD i 0 : Nat) : Int)) rfl (ev_roomOf q (ev_var rfl) (ev_room (i := (i + 1) % Q.length) (ev_var rfl) (evd_eq (ev_mod (ev_add (ev_var rfl) ev_int) (ev_lenL (ev_var rfl)) (by rw [lQ]; omega)) ?_) hm) a2) (ev_room (ev_var rfl) (ev_var rfl) hi) (by omega) ?_ ?_
      · rw [lQ]
        exact congrArg PyData.int (by push_cast; rfl)
      · rw [List.length_map, turnGo_len, q.len]; omega
      · refine ⟨.da (.int (i : Int)), ?_⟩
        show [Sl.da (ln R), .da (ln Q), .ow (((turnGo R Q i).map fun r : Nat => PyData.int (r : Int)).set ((Q.getD i 0 : Nat) : Int).toNat (.int ((R.getD (Q.getD ((i + 1) % Q.length) 0) 0 : Nat) : Int))), .da (.int (i : Int))] = _
        rw [Int.toNat_natCast, ← List.map_set]
        rfl
    · rintro Γ' ⟨s, rfl⟩
      refine ht_retS rfl ?_
      rw [Int.toNat_natCast]
      rfl
  · show HT K E _ [.da d, .da e, .no, .no] _
    by_cases hl : isList d = true
    · obtain ⟨xs, rfl⟩ := of_list hl hd.1
      have hk' : turnOk (.list xs) e = (decide (1 ≤ xs.length) && decide (xs.length ≤ 8) && isPlaces (.list xs) xs.length && isPlaces e xs.length && decide (2 ≤ lenD e)) := rfl
      refine ht_seq (ht_if (et_or (et_not (et_B (ev_isi (ev_var rfl) (kit_list _)))) fun _ => et_or (et_not (et_test (ev_leLe ev_int (ev_lenL (ev_var rfl)) ev_int))) fun _ => et_not (et_B (ev_call (ea_cons (ev_var rfl) (ea_cons (ev_lenL (ev_var rfl)) ea_nil)) ⟨.list xs, xs.length, rfl, hd, rfl⟩))) (fun h => ht_raise rfl) (fun h => ht_next ?_))
      have h1 : 1 ≤ xs.length ∧ xs.length ≤ 8 ∧ isPlaces (.list xs) xs.length = true := by
        simp [isList] at h
        refine ⟨by omega, by omega, h.2⟩
      have ep : EvD K (tCall (spOf K (S_are_places c)) [] E (tCons (tVar 1) (tCons (tCB (rLenV K) (tCons (tVar 0) tNil)) tNil))) [.da (.list xs), .da e, .no, .no] (.bool (isPlaces e xs.length)) :=
        ev_call (ea_cons (ev_var rfl) (ea_cons (ev_lenL (ev_var rfl)) ea_nil)) ⟨e, xs.length, rfl, he, rfl⟩
      by_cases hp : isPlaces e xs.length = true
      · obtain ⟨Q, rfl, _, _⟩ := isPlaces_of hp
        refine ht_seq (ht_if (b := true) (evt_eq (et_or (et_not (et_B ep)) fun _ => et_test (ev_lt (ev_lenL (ev_var rfl)) ev_int)) ?_) (fun _ => ht_raise rfl) (fun z => nomatch z))
        rw [hk', h1.2.2, hp] at hk
        have : lenD (ln Q) = Q.length := by show (Q.map _).length = _; rw [List.length_map]
        rw [this] at hk
        simp [h1.1, h1.2.1] at hk
        rw [hp, List.length_map]
        simp
        omega
      · have hp' : isPlaces e xs.length = false := by simpa using hp
        refine ht_seq (ht_if (b := true) (evt_eq (et_or (b := false) (et_not (et_B ep)) fun z => ?_) (by rw [hp']; rfl)) (fun _ => ht_raise rfl) (fun z => nomatch z))
        rw [hp'] at z; cases z
    · have hl' : isList d = false := by simpa using hl
      refine ht_seq (ht_if (b := true) (evt_eq (et_or (b := false) (et_not (et_B (ev_isi (ev_var rfl) (kit_list _)))) fun e => ?_) (by rw [hl']; rfl)) (fun _ => ht_raise rfl) (fun z => nomatch z))
      rw [hl'] at e; cases e

/-! ### ways -/
abbrev Wy := Nat → Nat → Int × List Nat
abbrev wpD (x : Int × List Nat) : PyData := .tuple [.int x.1, ln x.2]
def rowD (n : Nat) (f : Nat → Int × List Nat) : PyData := .list ((List.range n).map fun j => wpD (f j))
def wyD (n : Nat) (w : Wy) : PyData := .list ((List.range n).map fun i => rowD n (w i))
theorem range_getD {n i d : Nat} (h : i < n) : (List.range n).getD i d = i := by
  rw [List.getD_eq_getElem?_getD, List.getElem?_range h]; rfl
theorem ev_rowAt {n j : Nat} {f : Nat → Int × List Nat} (ha : EvD K ta Γ (rowD n f)) (hb : EvD K tb Γ (.int (j : Int))) (h : j < n) : EvD K (tOp (rIx K) ta tb) Γ (wpD (f j)) :=
  ev_ixL ha hb (by
    have := atI_map (f := fun j => wpD (f j)) (xs := List.range n) (i := (j : Int)) (by omega) (by simp; omega) 0
    rwa [Int.toNat_natCast, range_getD h] at this)
theorem ev_wyAt {n i : Nat} {w : Wy} (ha : EvD K ta Γ (wyD n w)) (hb : EvD K tb Γ (.int (i : Int))) (h : i < n) : EvD K (tOp (rIx K) ta tb) Γ (rowD n (w i)) :=
  ev_ixL ha hb (by
    have := atI_map (f := fun i => rowD n (w i)) (xs := List.range n) (i := (i : Int)) (by omega) (by simp; omega) 0
    rwa [Int.toNat_natCast, range_getD h] at this)
theorem ev_fst {x : Int × List Nat} (ha : EvD K ta Γ (wpD x)) : EvD K (tOp (rIx K) ta (tC (.int 0))) Γ (.int x.1) := ev_ixT ha ev_int rfl
theorem ev_snd {x : Int × List Nat} (ha : EvD K ta Γ (wpD x)) : EvD K (tOp (rIx K) ta (tC (.int 1))) Γ (ln x.2) := ev_ixT ha ev_int rfl
theorem shp_wp (x : Int × List Nat) : Shp 2 (wpD x) := shp_tup fun y hy => by
  rcases List.mem_cons.mp hy with e | e
  · subst e; exact (shp_int _).up (by decide)
  · rcases List.mem_cons.mp e with e | e
    · subst e; exact shp_ln _
    · cases e
theorem shp_row (n : Nat) (f : Nat → Int × List Nat) : Shp 3 (rowD n f) := shp_list fun j _ => shp_wp (f j)
theorem shp_wy (n : Nat) (w : Wy) : Shp 4 (wyD n w) := shp_list fun i _ => shp_row n (w i)

def w0 (W : List (List Int)) (R : List Nat) : Wy := fun i j => if i = j then (0, [i]) else (gn W R i j, [i, j])
def S_first_ways (c : CA) (ds : List PyData) (r : Res) : Prop := ∃ (W : List (List Int)) (R : List Nat) (n : Nat), Tab W n ∧ Rms R n ∧ ds = [PD.tb W, ln R] ∧ r = .ok (wyD n (w0 W R))
abbrev t_first_ways (K : PySem.W.Frag) (c : CA) (E : XK) : TS :=
  (tSeq (tAsg (tLst tNil) (gName 2))
    (tSeq (tFor (iRng1 (tCons (tCB (rLenV K) (tCons (tVar 1) tNil)) tNil)) (gName 3) (tSeq (tAsg (tLst tNil) (gName 4))
    (tSeq (tFor (iRng1 (tCons (tCB (rLenV K) (tCons (tVar 1) tNil)) tNil)) (gName 5) (tIfS (tTest (tOp (rEq2 K) (tVar 3) (tVar 5))) (tDrop (tBM K "list" rAppend (tVar 4) (tCons (tTup (tCons (tC (.int 0)) (tCons (tLst (tCons (tVar 3) tNil)) tNil))) tNil))) (tDrop (tBM K "list" rAppend (tVar 4) (tCons (tTup (tCons (tCall (spOf K (S_step c)) [] E (tCons (tVar 0) (tCons (tVar 1) (tCons (tVar 3) (tCons (tVar 5) tNil))))) (tCons (tLst (tCons (tVar 3) (tCons (tVar 5) tNil))) tNil))) tNil)))))
    (tDrop (tBM K "list" rAppend (tVar 2) (tCons (tVar 4) tNil))))))
    (tRet (tVar 2))))
abbrev N_first_ways : List Str := ["wishes", "rooms", "ways", "one", "row", "other"]
theorem ev_step {W : List (List Int)} {R : List Nat} {n i j : Nat} {t0 t1 t2 t3 : TE} (t : Tab W n) (q : Rms R n) (hi : i < n) (hj : j < n) (h0 : EvD K t0 Γ (PD.tb W)) (h1 : EvD K t1 Γ (ln R)) (h2 : EvD K t2 Γ (.int (i : Int))) (h3 : EvD K t3 Γ (.int (j : Int))) :
    EvD K (tCall (spOf K (S_step c)) [] E (tCons t0 (tCons t1 (tCons t2 (tCons t3 tNil))))) Γ (.int (gn W R i j)) := ev_call (ea_cons h0 (ea_cons h1 (ea_cons h2 (ea_cons h3 ea_nil)))) ⟨W, R, n, i, j, t, q, hi, hj, rfl, rfl⟩
theorem ht_first_ways (h : S_first_ways c ds r) : HT K E (t_first_ways K c E) (env0 N_first_ways ds) (Post r) := by
  obtain ⟨W, R, n, t, q, rfl, rfl⟩ := h
  show HT K E _ [.da (PD.tb W), .da (ln R), .no, .no, .no, .no] _
  have n8 := t.hi
  have lR : (lnL R).length = n := by rw [List.length_map, q.len]
  refine ht_seq (ht_asgO (eo_lst ea_nil (by decide)) ?_)
  refine ht_seq (ht_forR (n := (n : Int)) (fun i Γ' => ∃ s3 s4 s5, Γ' = [.da (PD.tb W), .da (ln R), .ow ((List.range i).map fun i => rowD n (w0 W R i)), s3, s4, s5]) (ea_cons (evd_eq (ev_lenL (ev_var rfl)) (by rw [lR])) ea_nil) (by omega) ⟨_, _, _, rfl⟩ ?_ ?_)
  · rintro i Γ' hi ⟨s3, s4, s5, rfl⟩
    have hi : i < n := by omega
    refine ht_seq (ht_asgO (eo_lst ea_nil (by decide)) ?_)
    refine ht_seq (ht_forR (n := (n : Int)) (fun j Γ' => ∃ s5, Γ' = [.da (PD.tb W), .da (ln R), .ow ((List.range i).map fun i => rowD n (w0 W R i)), .da (.int (i : Int)), .ow ((List.range j).map fun j => wpD (w0 W R i j)), s5]) (ea_cons (evd_eq (ev_lenL (ev_var rfl)) (by rw [lR])) ea_nil) (by omega) ⟨_, rfl⟩ ?_ ?_)
    · rintro j Γ' hj ⟨s5, rfl⟩
      have hj : j < n := by omega
      show HT K E _ [.da (PD.tb W), .da (ln R), .ow _, .da (.int (i : Int)), .ow _, .da (.int (j : Int))] _
      have fin : ∀ x, w0 W R i j = x → Turn1 (fun j Γ' => ∃ s5, Γ' = [.da (PD.tb W), .da (ln R), .ow ((List.range i).map fun i => rowD n (w0 W R i)), .da (.int (i : Int)), .ow ((List.range j).map fun j => wpD (w0 W R i j)), s5]) j
          (Then K E (tDrop (tBM K "list" rAppend (tVar 2) (tCons (tVar 4) tNil))) (Turn1 (fun i Γ' => ∃ s3 s4 s5, Γ' = [.da (PD.tb W), .da (ln R), .ow ((List.range i).map fun i => rowD n (w0 W R i)), s3, s4, s5]) i (Then K E (tRet (tVar 2)) (Post (.ok (wyD n (w0 W R)))))))
          (.nx [.da (PD.tb W), .da (ln R), .ow ((List.range i).map fun i => rowD n (w0 W R i)), .da (.int (i : Int)), .ow ((List.range j).map (fun j => wpD (w0 W R i j)) ++ [wpD x]), .da (.int (j : Int))]) := fun x hx =>
        ⟨.da (.int (j : Int)), by rw [List.range_succ, List.map_append, ← hx]; rfl⟩
      refine ht_if (et_test (ev_eqI (ev_var rfl) (ev_var rfl))) (fun h => ?_) (fun h => ?_)
      · have h : i = j := by have := of_decide_eq_true h; omega
        refine ht_app (d := wpD (0, [i])) rfl (ev_tup (ea_cons ev_int (ea_cons (EvO.toD (eo_lst (ea_cons (ev_var rfl) ea_nil) (by simp))) ea_nil)) (by simp)) (by simp; omega) (fin _ (by simp [w0, h]))
      · have h : ¬ i = j := by have := of_decide_eq_false h; omega
        refine ht_app (d := wpD (gn W R i j, [i, j])) rfl (ev_tup (ea_cons (ev_step t q hi hj (ev_var rfl) (ev_var rfl) (ev_var rfl) (ev_var rfl)) (ea_cons (EvO.toD (eo_lst (ea_cons (ev_var rfl) (ea_cons (ev_var rfl) ea_nil)) (by simp))) ea_nil)) (by simp)) (by simp; omega) (fin _ (by simp [w0, h]))
    · rintro Γ' ⟨s5, rfl⟩
      rw [Int.toNat_natCast]
      refine ht_frz (i := 4) rfl ?_
      refine ht_app (d := rowD n (w0 W R i)) rfl (ev_var rfl) (by simp; omega) ⟨.da (.int (i : Int)), .da (rowD n (w0 W R i)), s5, ?_⟩
      rw [List.range_succ, List.map_append]; rfl
  · rintro Γ' ⟨s3, s4, s5, rfl⟩
    rw [Int.toNat_natCast]
    refine ht_frz (i := 2) rfl ?_
    exact ht_ret (ev_var rfl) rfl

def best1 (W : List (List Int)) (R : List Nat) (row : Nat → Int × List Nat) (j : Nat) : Nat → Int × List Nat
  | 0 => row j
  | m + 1 => if (best1 W R row j m).1 < (row m).1 + gn W R m j then ((row m).1 + gn W R m j, (row m).2 ++ [j]) else best1 W R row j m
def lgRow (W : List (List Int)) (R : List Nat) (n : Nat) (row : Nat → Int × List Nat) : Nat → Int × List Nat := fun j => best1 W R row j n
def lg (W : List (List Int)) (R : List Nat) (n : Nat) (w : Wy) : Wy := fun i => lgRow W R n (w i)
def S_longer_row (c : CA) (ds : List PyData) (r : Res) : Prop := ∃ (W : List (List Int)) (R : List Nat) (n : Nat) (row : Nat → Int × List Nat), Tab W n ∧ Rms R n ∧ (∀ j, j < n → (row j).2.length ≤ 1000) ∧ ds = [PD.tb W, ln R, rowD n row] ∧ r = .ok (rowD n (lgRow W R n row))
abbrev t_longer_row (K : PySem.W.Frag) (c : CA) (E : XK) : TS :=
  (tSeq (tAsg (tLst tNil) (gName 3))
    (tSeq (tFor (iRng1 (tCons (tCB (rLenV K) (tCons (tVar 1) tNil)) tNil)) (gName 4) (tSeq (tAsg (tOp (rIx K) (tVar 2) (tVar 4)) (gName 5))
    (tSeq (tFor (iRng1 (tCons (tCB (rLenV K) (tCons (tVar 1) tNil)) tNil)) (gName 6) (tSeq (tAsg (tOp rAdd3 (tOp (rIx K) (tOp (rIx K) (tVar 2) (tVar 6)) (tC (.int 0))) (tCall (spOf K (S_step c)) [] E (tCons (tVar 0) (tCons (tVar 1) (tCons (tVar 6) (tCons (tVar 4) tNil)))))) (gName 7))
    (tIfS (tTest (tOp rGtI (tVar 7) (tOp (rIx K) (tVar 5) (tC (.int 0))))) (tAsg (tTup (tCons (tVar 7) (tCons (tOp rAdd3 (tOp (rIx K) (tOp (rIx K) (tVar 2) (tVar 6)) (tC (.int 1))) (tLst (tCons (tVar 4) tNil))) tNil))) (gName 5)) tNext)))
    (tDrop (tBM K "list" rAppend (tVar 3) (tCons (tVar 5) tNil))))))
    (tRet (tVar 3))))
abbrev N_longer_row : List Str := ["wishes", "rooms", "row", "found", "other", "top", "middle", "worth"]
theorem best1_len {W : List (List Int)} {R : List Nat} {row : Nat → Int × List Nat} {j n l : Nat} (hj : j < n) (h : ∀ j, j < n → (row j).2.length ≤ l) : ∀ m, m ≤ n → (best1 W R row j m).2.length ≤ l + 1
  | 0, _ => Nat.le_succ_of_le (h j hj)
  | m + 1, hm => by
    unfold best1
    split
    · have := h m (by omega); simp; omega
    · exact best1_len hj h m (by omega)
theorem ht_longer_row (h : S_longer_row c ds r) : HT K E (t_longer_row K c E) (env0 N_longer_row ds) (Post r) := by
  obtain ⟨W, R, n, row, t, q, hl, rfl, rfl⟩ := h
  show HT K E _ [.da (PD.tb W), .da (ln R), .da (rowD n row), .no, .no, .no, .no, .no] _
  have n8 := t.hi
  have lR : (lnL R).length = n := by rw [List.length_map, q.len]
  refine ht_seq (ht_asgO (eo_lst ea_nil (by decide)) ?_)
  refine ht_seq (ht_forR (n := (n : Int)) (fun j Γ' => ∃ s4 s5 s6 s7, Γ' = [.da (PD.tb W), .da (ln R), .da (rowD n row), .ow ((List.range j).map fun j => wpD (lgRow W R n row j)), s4, s5, s6, s7]) (ea_cons (evd_eq (ev_lenL (ev_var rfl)) (by rw [lR])) ea_nil) (by omega) ⟨_, _, _, _, rfl⟩ ?_ ?_)
  · rintro j Γ' hj ⟨s4, s5, s6, s7, rfl⟩
    have hj : j < n := by omega
    refine ht_seq (ht_asg (ev_rowAt (ev_var rfl) (ev_var rfl) hj) ?_)
    refine ht_seq (ht_forR (n := (n : Int)) (fun m Γ' => ∃ s6 s7, Γ' = [.da (PD.tb W), .da (ln R), .da (rowD n row), .ow ((List.range j).map fun j => wpD (lgRow W R n row j)), .da (.int (j : Int)), .da (wpD (best1 W R row j m)), s6, s7]) (ea_cons (evd_eq (ev_lenL (ev_var rfl)) (by rw [lR])) ea_nil) (by omega) ⟨_, _, rfl⟩ ?_ ?_)
    · rintro m Γ' hm ⟨s6, s7, rfl⟩
      have hm : m < n := by omega
      refine ht_seq (ht_asg (ev_add (ev_fst (ev_rowAt (ev_var rfl) (ev_var rfl) hm)) (ev_step t q hm hj (ev_var rfl) (ev_var rfl) (ev_var rfl) (ev_var rfl))) ?_)
      refine ht_if (et_test (ev_gt (ev_var rfl) (ev_fst (ev_var rfl)))) (fun h => ?_) (fun h => ?_)
      · have h := of_decide_eq_true h
        have e : best1 W R row j (m + 1) = ((row m).1 + gn W R m j, (row m).2 ++ [j]) := by rw [best1, if_pos h]
        refine ht_asg (d := wpD ((row m).1 + gn W R m j, (row m).2 ++ [j])) (ev_tup (ea_cons (ev_var rfl) (ea_cons (evd_eq (EvO.toD (ev_cat (ev_snd (ev_rowAt (ev_var rfl) (ev_var rfl) hm)) (EvO.toD (eo_lst (ea_cons (ev_var rfl) ea_nil) (by simp))) ?_)) ?_) ea_nil)) (by simp)) ⟨.da (.int (m : Int)), .da (.int ((row m).1 + gn W R m j)), ?_⟩
        · have := hl m hm; simp; omega
        · show PyData.list (lnL _ ++ [.int (j : Int)]) = .list (lnL _)
          simp
        · rw [e]; rfl
      · have h := of_decide_eq_false h
        have e : best1 W R row j (m + 1) = best1 W R row j m := by rw [best1, if_neg h]
        exact ht_next ⟨.da (.int (m : Int)), .da (.int ((row m).1 + gn W R m j)), by rw [e]; rfl⟩
    · rintro Γ' ⟨s6, s7, rfl⟩
      rw [Int.toNat_natCast]
      refine ht_app (d := wpD (lgRow W R n row j)) rfl (ev_var rfl) (by simp; omega) ⟨.da (.int (j : Int)), .da (wpD (lgRow W R n row j)), s6, s7, ?_⟩
      rw [List.range_succ, List.map_append]; rfl
  · rintro Γ' ⟨s4, s5, s6, s7, rfl⟩
    rw [Int.toNat_natCast]
    refine ht_frz (i := 3) rfl ?_
    exact ht_ret (ev_var rfl) rfl

def S_longer (c : CA) (ds : List PyData) (r : Res) : Prop := ∃ (W : List (List Int)) (R : List Nat) (n : Nat) (w : Wy), Tab W n ∧ Rms R n ∧ (∀ i j, i < n → j < n → (w i j).2.length ≤ 1000) ∧ ds = [PD.tb W, ln R, wyD n w] ∧ r = .ok (wyD n (lg W R n w))
abbrev t_longer (K : PySem.W.Frag) (c : CA) (E : XK) : TS :=
  (tRet (tLc (iList K (tVar 2)) (gName 3) tYes (tCall (spOf K (S_longer_row c)) [] E0 (tCons (tVar 0) (tCons (tVar 1) (tCons (tVar 3) tNil)))) [3]))
abbrev N_longer : List Str := ["wishes", "rooms", "ways", "row"]
theorem ht_longer (h : S_longer c ds r) : HT K E (t_longer K c E) (env0 N_longer ds) (Post r) := by
  obtain ⟨W, R, n, w, t, q, hl, rfl, rfl⟩ := h
  show HT K E _ [.da (PD.tb W), .da (ln R), .da (wyD n w), .no] _
  have n8 := t.hi
  refine ht_ret (EvO.toD (eo_mapL (List.range n) (fun i => rowD n (w i)) (fun i => rowD n (lg W R n w i)) (ev_var rfl) (by simp; omega) fun i hi => ?_)) rfl
  have hi : i < n := by simpa using hi
  exact ev_call (ea_cons (ev_var rfl) (ea_cons (ev_var rfl) (ea_cons (ev_var rfl) ea_nil))) ⟨W, R, n, w i, t, q, fun j hj => hl i j hi hj, rfl, rfl⟩

def ringL (w : Wy) : List Nat → Option (List Nat)
  | [] => none
  | i :: is => if 0 < (w i i).1 then some (w i i).2.dropLast else ringL w is
def ringIn (n : Nat) (w : Wy) : Option (List Nat) := ringL w (List.range n)
def ringD : Option (List Nat) → PyData
  | none => .none
  | some r => ln r
theorem isNone_ringD (o : Option (List Nat)) : isNone (ringD o) = o.isNone := by cases o <;> rfl
def S_ring_in (c : CA) (ds : List PyData) (r : Res) : Prop := ∃ (n : Nat) (w : Wy), n ≤ 8 ∧ ds = [wyD n w] ∧ r = .ok (ringD (ringIn n w))
abbrev t_ring_in (K : PySem.W.Frag) (c : CA) (E : XK) : TS :=
  (tSeq (tFor (iRng1 (tCons (tCB (rLenV K) (tCons (tVar 0) tNil)) tNil)) (gName 1) (tIfS (tTest (tOp rGtI (tOp (rIx K) (tOp (rIx K) (tOp (rIx K) (tVar 0) (tVar 1)) (tVar 1)) (tC (.int 0))) (tC (.int 0)))) (tRet (tSl (rSlL K) (tOp (rIx K) (tOp (rIx K) (tOp (rIx K) (tVar 0) (tVar 1)) (tVar 1)) (tC (.int 1))) tNoPart (tPart (tUn (rU fun i => .int (-i)) (tC (.int 1)))))) tNext))
    (tRet (tC .non)))
abbrev N_ring_in : List Str := ["ways", "one"]
theorem range_drop {n i : Nat} (h : i < n) : (List.range n).drop i = i :: (List.range n).drop (i + 1) := by
  rw [List.drop_eq_getElem_cons (by simpa using h), List.getElem_range]
theorem cut_last (xs : List PyData) : cutD xs none (some (-1)) = xs.dropLast := by
  have e1 : _root_.HT.sIx xs.length 0 none = 0 := rfl
  have e2 : _root_.HT.sIx xs.length xs.length (some (-1)) = xs.length - 1 := by
    show (if (-1 : Int) < 0 then ((-1 : Int) + (xs.length : Int)).toNat else min (-1 : Int).toNat xs.length) = _
    rw [if_pos (by decide)]
    omega
  unfold cutD
  rw [e1, e2, List.drop_zero, Nat.sub_zero, List.dropLast_eq_take]
theorem ht_ring_in (h : S_ring_in c ds r) : HT K E (t_ring_in K c E) (env0 N_ring_in ds) (Post r) := by
  obtain ⟨n, w, n8, rfl, rfl⟩ := h
  show HT K E _ [.da (wyD n w), .no] _
  refine ht_seq (ht_forR (n := (n : Int)) (fun i Γ' => ∃ s, Γ' = [.da (wyD n w), s] ∧ ringIn n w = ringL w ((List.range n).drop i)) (ea_cons (evd_eq (ev_lenL (ds := (List.range n).map fun i => rowD n (w i)) (ev_var rfl)) (by simp)) ea_nil) (by omega) ⟨_, rfl, rfl⟩ ?_ ?_)
  · rintro i Γ' hi ⟨s, rfl, hr⟩
    have hi : i < n := by omega
    rw [range_drop hi] at hr
    refine ht_if (et_test (ev_gt (ev_fst (ev_rowAt (ev_wyAt (ev_var rfl) (ev_var rfl) hi) (ev_var rfl) hi)) ev_int)) (fun h => ?_) (fun h => ?_)
    · have h := of_decide_eq_true h
      refine ht_ret (EvO.toD (eo_cut (ev_snd (ev_rowAt (ev_wyAt (ev_var rfl) (ev_var rfl) hi) (ev_var rfl) hi)) ep_none (ep_some (ev_neg ev_int)))) ?_
      show PyData.list _ = ringD (ringIn n w)
      rw [hr, ringL, if_pos h, cut_last]
      simp [ringD, List.map_dropLast]
    · have h := of_decide_eq_false h
      refine ht_next ⟨_, rfl, ?_⟩
      rw [hr, ringL, if_neg h]
  · rintro Γ' ⟨s, rfl, hr⟩
    refine ht_ret ev_non ?_
    rw [Int.toNat_natCast] at hr
    show PyData.none = ringD (ringIn n w)
    rw [hr, List.drop_eq_nil_of_le (by simp)]
    rfl

def sameW (n : Nat) (f w : Wy) : Bool := PyData.eqv (wyD n f) (wyD n w)
def bwGo (W : List (List Int)) (R : List Nat) (n : Nat) : Nat → Wy → Option (List Nat) × Wy
  | 0, w => (none, w)
  | k + 1, w => match ringIn n (lg W R n w) with
    | some r => (some r, lg W R n w)
    | none => if sameW n (lg W R n w) w = true then (none, w) else bwGo W R n k (lg W R n w)
def bw (W : List (List Int)) (R : List Nat) (n : Nat) : Option (List Nat) × Wy := bwGo W R n n (w0 W R)
def S_best_ways (c : CA) (ds : List PyData) (r : Res) : Prop := ∃ (W : List (List Int)) (R : List Nat) (n : Nat), Tab W n ∧ Rms R n ∧ ds = [PD.tb W, ln R] ∧ r = .ok (.tuple [ringD (bw W R n).1, wyD n (bw W R n).2])
abbrev t_best_ways (K : PySem.W.Frag) (c : CA) (E : XK) : TS :=
  (tSeq (tAsg (tCall (spOf K (S_first_ways c)) [] E (tCons (tVar 0) (tCons (tVar 1) tNil))) (gName 2))
    (tSeq (tFor (iList K (tVar 1)) (gName 3) (tSeq (tAsg (tCall (spOf K (S_longer c)) [] E (tCons (tVar 0) (tCons (tVar 1) (tCons (tVar 2) tNil)))) (gName 4))
    (tSeq (tAsg (tCall (spOf K (S_ring_in c)) [] E (tCons (tVar 4) tNil)) (gName 5))
    (tSeq (tIfS (tTest (tOp rNotN (tVar 5) (tC .non))) (tRet (tTup (tCons (tVar 5) (tCons (tVar 4) tNil)))) tNext)
    (tSeq (tIfS (tTest (tOp (rEq2 K) (tVar 4) (tVar 2))) (tRet (tTup (tCons (tC .non) (tCons (tVar 2) tNil)))) tNext)
    (tAsg (tVar 4) (gName 2)))))))
    (tRet (tTup (tCons (tC .non) (tCons (tVar 2) tNil))))))
abbrev N_best_ways : List Str := ["wishes", "rooms", "ways", "turn", "fresh", "ring"]
theorem w0_len {W : List (List Int)} {R : List Nat} {i j : Nat} : (w0 W R i j).2.length ≤ 2 := by
  unfold w0; split <;> simp
theorem ht_best_ways (h : S_best_ways c ds r) : HT K E (t_best_ways K c E) (env0 N_best_ways ds) (Post r) := by
  obtain ⟨W, R, n, t, q, rfl, rfl⟩ := h
  show HT K E _ [.da (PD.tb W), .da (ln R), .no, .no, .no, .no] _
  have n8 := t.hi
  refine ht_seq (ht_asg (ev_call (ea_cons (ev_var rfl) (ea_cons (ev_var rfl) ea_nil)) ⟨W, R, n, t, q, rfl, rfl⟩) ?_)
  refine ht_seq (ht_forN R (fun r : Nat => .int (r : Int)) (fun i Γ' => ∃ w s3 s4 s5, Γ' = [.da (PD.tb W), .da (ln R), .da (wyD n w), s3, s4, s5] ∧ (∀ a b, a < n → b < n → (w a b).2.length ≤ i + 2) ∧ bw W R n = bwGo W R n (n - i) w) (ev_var rfl) ⟨w0 W R, _, _, _, rfl, fun a b _ _ => w0_len, rfl⟩ ?_ ?_)
  · rintro i x Γ' hi ⟨w, s3, s4, s5, rfl, hl, he⟩
    have hi : i < n := by rw [← q.len]; exact (List.getElem?_eq_some_iff.mp hi).1
    have hk : n - i = (n - (i + 1)) + 1 := by omega
    rw [hk, bwGo] at he
    refine ht_seq (ht_asg (ev_call (ea_cons (ev_var rfl) (ea_cons (ev_var rfl) (ea_cons (ev_var rfl) ea_nil))) ⟨W, R, n, w, t, q, fun a b ha hb => Nat.le_trans (hl a b ha hb) (by omega), rfl, rfl⟩) ?_)
    refine ht_seq (ht_asg (ev_call (ea_cons (ev_var rfl) ea_nil) ⟨n, lg W R n w, n8, rfl, rfl⟩) ?_)
    refine ht_seq (ht_if (et_test (ev_notN (ev_var rfl))) (fun h => ?_) (fun h => ht_next ?_))
    · rw [isNone_ringD] at h
      cases hr : ringIn n (lg W R n w) with
      | none => rw [hr] at h; cases h
      | some rr =>
        rw [hr] at he
        refine ht_ret (ev_tup (ea_cons (ev_var rfl) (ea_cons (ev_var rfl) ea_nil)) (by simp)) ?_
        show PyData.tuple _ = _
        rw [he]
    · rw [isNone_ringD] at h
      cases hr : ringIn n (lg W R n w) with
      | some rr => rw [hr] at h; cases h
      | none =>
        rw [hr] at he
        refine ht_seq (ht_if (et_test (ev_eqD (ev_var rfl) (ev_var rfl) (shp_wy n _).is (shp_wy n _).is)) (fun h => ?_) (fun h => ht_next ?_))
        · refine ht_ret (ev_tup (ea_cons ev_non (ea_cons (ev_var rfl) ea_nil)) (by simp)) ?_
          have he2 : bw W R n = if sameW n (lg W R n w) w = true then (none, w) else bwGo W R n (n - (i + 1)) (lg W R n w) := he
          rw [if_pos (show sameW n (lg W R n w) w = true from h)] at he2
          show PyData.tuple _ = _
          rw [he2]; rfl
        · have he2 : bw W R n = if sameW n (lg W R n w) w = true then (none, w) else bwGo W R n (n - (i + 1)) (lg W R n w) := he
          rw [if_neg (show ¬ sameW n (lg W R n w) w = true from fun z => Bool.false_ne_true (h.symm.trans z))] at he2
          refine ht_asg (ev_var rfl) ⟨lg W R n w, _, _, _, rfl, fun a b ha hb => ?_, he2⟩
          have := best1_len (W := W) (R := R) (row := w a) (j := b) (l := i + 2) hb (fun j hj => hl a j ha hj) n (Nat.le_refl _)
          exact Nat.le_trans this (by omega)
  · rintro Γ' ⟨w, s3, s4, s5, rfl, hl, he⟩
    rw [q.len, Nat.sub_self] at he
    refine ht_ret (ev_tup (ea_cons ev_non (ea_cons (ev_var rfl) ea_nil)) (by simp)) ?_
    show PyData.tuple _ = _
    rw [he]; rfl
end
end PD

set_option Elab.async false
set_option linter.all false
set_option maxRecDepth 100000
set_option maxHeartbeats 1000000
/-! More that the laws have in common. -/
namespace PD
open PySem L2
theorem cutD_take (ds : List PyData) (p : Nat) : cutD ds none (some (p : Int)) = ds.take p := by
  have e1 : _root_.HT.sIx ds.length 0 none = 0 := rfl
  unfold cutD
  rw [e1, _root_.HT.sIx_nat, List.drop_zero, Nat.sub_zero]
  by_cases h : p ≤ ds.length
  · rw [Nat.min_eq_left h]
  · rw [Nat.min_eq_right (by omega), List.take_length, List.take_of_length_le (by omega)]
theorem cutD_drop (ds : List PyData) (p : Nat) : cutD ds (some (p : Int)) none = ds.drop p := by
  have e1 : _root_.HT.sIx ds.length ds.length none = ds.length := rfl
  unfold cutD
  rw [e1, _root_.HT.sIx_nat]
  by_cases h : p ≤ ds.length
  · rw [Nat.min_eq_left h, List.take_of_length_le (by rw [List.length_drop]; omega)]
  · rw [Nat.min_eq_right (by omega), List.drop_length, List.drop_eq_nil_of_le (by omega)]; simp
section
variable {K : PySem.W.Frag} {c : CA} {E : XK} {Γ : Env} {ta tb te tl tp : TE} {ds : List PyData} {r : Res}
theorem eo_take {p : Nat} (h : EvD K tl Γ (.list ds)) (hp : EvD K tp Γ (.int (p : Int))) : EvO K (tSl (rSlL K) tl tNoPart (tPart tp)) Γ (ds.take p) :=
  evo_eq (eo_cut h ep_none (ep_some hp)) (cutD_take ds p)
theorem eo_drop {p : Nat} (h : EvD K tl Γ (.list ds)) (hp : EvD K tp Γ (.int (p : Int))) : EvO K (tSl (rSlL K) tl (tPart tp) tNoPart) Γ (ds.drop p) :=
  evo_eq (eo_cut h (ep_some hp) ep_none) (cutD_drop ds p)
/-- xs[:p] + [d] + xs[p + 1:] -/
theorem eo_spl {p : Nat} {d : PyData} (h : EvD K tl Γ (.list ds)) (hp : EvD K tp Γ (.int (p : Int))) (hd : EvD K te Γ d) (hl : p < ds.length) (hz : ds.length ≤ 1000) :
    EvO K (tOp rAdd3 (tOp rAdd3 (tSl (rSlL K) tl tNoPart (tPart tp)) (tLst (tCons te tNil))) (tSl (rSlL K) tl (tPart (tOp rAdd3 tp (tC (.int 1)))) tNoPart)) Γ (ds.set p d) := by
  refine evo_eq (ev_cat (EvO.toD (ev_cat (EvO.toD (eo_take h hp)) (EvO.toD (eo_lst (ea_cons hd ea_nil) (by simp))) ?_)) (EvO.toD (eo_drop (p := p + 1) h (evd_eq (ev_add hp ev_int) (congrArg PyData.int (by push_cast; rfl))))) ?_) ?_
  · simp; omega
  · simp; omega
  · rw [List.set_eq_take_append_cons_drop, if_pos hl]; simp
/-- a list of that many things, one picked by a number -/
theorem ev_pick {k : Nat} (ha : EvD K ta Γ (.list ds)) (hb : EvD K tb Γ (.int (k : Int))) (h : k < ds.length) : EvD K (tOp (rIx K) ta tb) Γ (ds.getD k .none) :=
  ev_ixL ha hb (by
    have := atI_map (f := id) (xs := ds) (i := (k : Int)) (by omega) (by omega) PyData.none
    rw [List.map_id, Int.toNat_natCast] at this
    exact this)
/-- xs[-1] at p = 0 -/
theorem ev_ahead {p : Nat} (ha : EvD K ta Γ (.list ds)) (hb : EvD K tb Γ (.int (p : Int))) (h : p < ds.length) : EvD K (tOp (rIx K) ta (tOp rSubI tb (tC (.int 1)))) Γ (ds.getD (if p = 0 then ds.length - 1 else p - 1) .none) := by
  refine ev_ixL ha (ev_sub hb ev_int) ?_
  rw [List.getD_eq_getElem?_getD]
  have e : ixN ds.length ((p : Int) - 1) = some (if p = 0 then ds.length - 1 else p - 1) := by
    unfold ixN
    by_cases hp : p = 0
    · subst hp
      rw [if_pos rfl, if_neg (by omega)]
      first
        | (rw [if_pos (by omega)]; congr 1; omega)
        | (simp; omega)
    · rw [if_neg hp, if_pos (by omega), if_pos (by omega)]
      congr 1
      omega
  have l : (if p = 0 then ds.length - 1 else p - 1) < ds.length := by split <;> omega
  unfold atI
  rw [e, List.getElem?_eq_getElem l]
  show ds[_]? = _
  rw [List.getElem?_eq_getElem l]
  rfl
end
/-! ### lent slots -/
theorem fix_da {Γ Γf : Env} {i : Nat} {d : PyData} (hf : Fixed Γ Γf) (h : Γ[i]? = some (.da d)) : ∃ v, Γf[i]? = some (.fx v (some d)) := by
  obtain ⟨y, e, f⟩ := hf.get h
  cases f with
  | da v d => exact ⟨v, e⟩
theorem fix_ow {Γ Γf : Env} {i : Nat} {ds : List PyData} (hf : Fixed Γ Γf) (h : Γ[i]? = some (.ow ds)) : ∃ v, Γf[i]? = some (.fx v (some (.list ds))) := by
  obtain ⟨y, e, f⟩ := hf.get h
  cases f with
  | ow p ds => exact ⟨_, e⟩
theorem set_same {α : Type} {l : List α} {j : Nat} {y : α} (h : l[j]? = some y) : l.set j y = l := by
  refine List.ext_getElem? fun i => ?_
  by_cases e : j = i
  · subst e
    rw [List.getElem?_set_self (List.getElem?_eq_some_iff.mp h).1, h]
  · rw [List.getElem?_set_ne e]
/-- behind a statement that stored slot j alone -/
theorem loan_set {Γ Γf : Env} {P : Out → Prop} {j : Nat} {s : Sl} (hf : Fixed Γ Γf) (p : P (.nx (Γ.set j .no))) : Loan Γ Γf P (.nx (Γf.set j s)) := by
  refine ⟨by rw [List.length_set, hf.len], Γ.set j .no, by rw [List.length_set], fun m x q => ?_, p⟩
  by_cases e : j = m
  · subst e
    have hm : j < Γ.length := by have := (List.getElem?_eq_some_iff.mp q).1; simpa using this
    rw [List.getElem?_set_self hm] at q
    cases q
    exact .inl rfl
  · rw [List.getElem?_set_ne e] at q
    exact .inr ⟨q, by rw [List.getElem?_set_ne e]⟩
/-! ### lists that are none of places -/
theorem lnL_inj {R Q : List Nat} (h : lnL R = lnL Q) : R = Q := by
  induction R generalizing Q with
  | nil => cases Q with
    | nil => rfl
    | cons q Q => cases h
  | cons r R ih => cases Q with
    | nil => cases h
    | cons q Q =>
      have h : (PyData.int (r : Int) :: lnL R) = (PyData.int (q : Int) :: lnL Q) := h
      injection h with h1 h2
      injection h1 with h1
      rw [ih h2]
      congr 1
      omega
theorem ln_inj {R Q : List Nat} (h : ln R = ln Q) : R = Q := by
  injection h with h
  exact lnL_inj h
/-- something that is no place stands in it -/
theorem no_places {xs : List PyData} {d : PyData} {m : Nat} (hm : d ∈ xs) (hd : placeOk d m = false) : isPlaces (.list xs) m = false := by
  refine Bool.eq_false_iff.mpr fun h => ?_
  obtain ⟨R, e, h1, _⟩ := isPlaces_of h
  injection e with e
  subst e
  obtain ⟨r, hr, rfl⟩ := List.mem_map.mp hm
  have := h1 r hr
  simp [placeOk] at hd
  omega
/-- the same thing stands at two places -/
theorem dup_places {xs : List PyData} {d : PyData} {m p q : Nat} (hp : xs[p]? = some d) (hq : xs[q]? = some d) (hn : p ≠ q) : isPlaces (.list xs) m = false := by
  refine Bool.eq_false_iff.mpr fun h => ?_
  obtain ⟨R, e, _, h2⟩ := isPlaces_of h
  injection e with e
  subst e
  rw [List.getElem?_map] at hp hq
  obtain ⟨a, ha, rfl⟩ := Option.map_eq_some_iff.mp hp
  obtain ⟨b, hb, e2⟩ := Option.map_eq_some_iff.mp hq
  have eb : b = a := by
    injection e2 with e2
    omega
  subst eb
  obtain ⟨hp1, hp2⟩ := List.getElem?_eq_some_iff.mp ha
  obtain ⟨hq1, hq2⟩ := List.getElem?_eq_some_iff.mp hb
  exact hn ((List.getElem_inj h2).mp (hp2.trans hq2.symm))
theorem long_places {xs : List PyData} {m : Nat} (h : m < xs.length) : isPlaces (.list xs) m = false := by
  refine Bool.eq_false_iff.mpr fun z => ?_
  obtain ⟨R, e, h1, h2⟩ := isPlaces_of z
  injection e with e
  subst e
  have := nodup_le h1 h2
  simp at h
  omega
theorem set_mem {α : Type} {xs : List α} {p : Nat} {d : α} (h : p < xs.length) : d ∈ xs.set p d := by
  refine List.mem_of_getElem? (i := p) ?_
  rw [List.getElem?_set_self h]
/-- xs with another one's thing at p -/
theorem dup_set {xs : List PyData} {m p q : Nat} (hp : p < xs.length) (hq : q < xs.length) (hn : p ≠ q) : isPlaces (.list (xs.set p (xs.getD q .none))) m = false := by
  refine dup_places (p := p) (q := q) (d := xs.getD q .none) (by rw [List.getElem?_set_self hp]) ?_ hn
  rw [List.getElem?_set_ne hn, List.getD_eq_getElem?_getD, List.getElem?_eq_getElem hq]
  rfl
/-- one cell's remainder as a number -/
theorem rem_of (x : Int) {m : Int} (hm : 0 < m) : ∃ k : Nat, x % m = (k : Int) ∧ (k : Int) < m := by
  have h1 := Int.emod_nonneg x (b := m) (by omega)
  have h2 := Int.emod_lt_of_pos x hm
  exact ⟨(x % m).toNat, by omega, by omega⟩
end PD

set_option Elab.async false
set_option linter.all false
set_option maxRecDepth 100000
set_option maxHeartbeats 1000000
set_option exponentiation.threshold 2000
namespace PD
open PySem L2
section
variable {K : PySem.W.Frag} {c : CA} {E : XK} {Γ : Env} {ds : List PyData} {r : Res} {ta : TE}
/-- a row of a deal -/
def rowT (k r : Nat) (p : Int) (n : Nat) : Str := sI (k : Int) ++ ": room " ++ sI (r : Int) ++ " pays " ++ sI p ++ "/" ++ sI (n : Int)
def textOf (R : List Nat) (ps : List Int) (n : Nat) (m : Nat) : List Str := (List.range m).map fun k => rowT k (R.getD k 0) (ps.getD (R.getD k 0) 0) n
theorem small_nat {k : Nat} (h : k ≤ 8) : ((k : Int)).natAbs < 10 ^ 1 := by
  rw [Int.natAbs_natCast]; exact Nat.lt_of_le_of_lt h (by decide)
theorem sI_small {k : Nat} (h : k ≤ 8) : (sI (k : Int)).length ≤ 2 := sI_len (by decide) (small_nat h)
theorem rowT_len {k r n : Nat} {p : Int} (hk : k ≤ 8) (hr : r ≤ 8) (hn : n ≤ 8) (hp : p.natAbs < 10 ^ 40) : (rowT k r p n).length ≤ 200 := by
  have h1 := sI_small hk
  have h2 := sI_small hr
  have h3 := sI_small hn
  have h4 := sI_len (by decide) hp
  have e1 : (Str.ofString ": room ").length = 7 := by decide +kernel
  have e2 : (Str.ofString " pays ").length = 6 := by decide +kernel
  have e3 : (Str.ofString "/").length = 1 := by decide +kernel
  unfold rowT
  simp only [Str.length_append]
  omega
def S_shown (c : CA) (ds : List PyData) (r : Res) : Prop := ∃ (R : List Nat) (ps : List Int) (n : Nat), Rms R n ∧ n ≤ 8 ∧ ps.length = n ∧ (∀ p ∈ ps, p.natAbs < 10 ^ 40) ∧ ds = [ln R, li ps] ∧ r = .ok (.str (Txt.join "\n" (textOf R ps n n)))
abbrev t_shown (K : PySem.W.Frag) (c : CA) (E : XK) : TS :=
  (tSeq (tAsg (tCB (rLenV K) (tCons (tVar 0) tNil)) (gName 2))
    (tSeq (tAsg (tLst tNil) (gName 3))
    (tSeq (tFor (iRng1 (tCons (tVar 2) tNil)) (gName 4) (tSeq (tAsg (tOp (rIx K) (tVar 0) (tVar 4)) (gName 5))
    (tSeq (tAsg (tOp (rIx K) (tVar 1) (tVar 5)) (gName 6))
    (tDrop (tBM K "list" rAppend (tVar 3) (tCons (tJoin [(tFmt (tVar 4)), (tC (.str ": room ")), (tFmt (tVar 5)), (tC (.str " pays ")), (tFmt (tVar 6)), (tC (.str "/")), (tFmt (tVar 2))]) tNil))))))
    (tRet (tJoinL K (tC (.str "\n")) (tVar 3))))))
abbrev N_shown : List Str := ["rooms", "parts", "many", "rows", "lodger", "room", "part"]
theorem part_ok {R : List Nat} {ps : List Int} {n k : Nat} (q : Rms R n) (lp : ps.length = n) (hp : ∀ p ∈ ps, p.natAbs < 10 ^ 40) (hk : k < n) : (ps.getD (R.getD k 0) 0).natAbs < 10 ^ 40 := hp _ (getD_mem (by rw [lp]; exact q.at_lt hk))
theorem text_more {R : List Nat} {ps : List Int} {n k : Nat} : (textOf R ps n (k + 1)).map PyData.str = (textOf R ps n k).map PyData.str ++ [.str (rowT k (R.getD k 0) (ps.getD (R.getD k 0) 0) n)] := by
  unfold textOf
  rw [List.range_succ, List.map_append, List.map_append]
  rfl
theorem text_sum {R : List Nat} {ps : List Int} {n : Nat} (q : Rms R n) (n8 : n ≤ 8) (lp : ps.length = n) (hp : ∀ p ∈ ps, p.natAbs < 10 ^ 40) : ((textOf R ps n n).map (·.length)).sum + (textOf R ps n n).length * (Str.ofString "\n").length ≤ 16777216 := by
  have h1 := sum_len (ys := textOf R ps n n) (k := 200) fun y hy => by
    obtain ⟨k, hk, rfl⟩ := List.mem_map.mp hy
    have hk := List.mem_range.mp hk
    have := q.at_lt hk
    exact rowT_len (by omega) (by omega) n8 (part_ok q lp hp hk)
  have l : (textOf R ps n n).length = n := by simp [textOf]
  have e : (Str.ofString "\n").length = 1 := by decide +kernel
  rw [l] at h1 ⊢
  rw [e]
  omega
theorem big {p : Int} (h : p.natAbs < 10 ^ 40) : p.natAbs < 10 ^ 100 := Nat.lt_trans h (by decide +kernel)
theorem ht_shown (h : S_shown c ds r) : HT K E (t_shown K c E) (env0 N_shown ds) (Post r) := by
  obtain ⟨R, ps, n, q, n8, lp, hp, rfl, rfl⟩ := h
  show HT K E _ [.da (ln R), .da (li ps), .no, .no, .no, .no, .no] _
  have lR : (lnL R).length = n := by rw [List.length_map, q.len]
  refine ht_seq (ht_asg (d := .int (n : Int)) (evd_eq (ev_lenL (ev_var rfl)) (by rw [lR])) ?_)
  refine ht_seq (ht_asgO (eo_lst ea_nil (by simp)) ?_)
  refine ht_seq (ht_forR (n := (n : Int)) (fun k Γ' => ∃ s4 s5 s6, Γ' = [.da (ln R), .da (li ps), .da (.int (n : Int)), .ow ((textOf R ps n k).map .str), s4, s5, s6]) (ea_cons (ev_var rfl) ea_nil) (by omega) ⟨_, _, _, rfl⟩ ?_ ?_)
  · rintro k Γ' hk ⟨s4, s5, s6, rfl⟩
    have hk : k < n := by omega
    have hr := q.at_lt hk
    have pk := part_ok q lp hp hk
    refine ht_seq (ht_asg (ev_roomOf q (ev_var rfl) (ev_var rfl) hk) ?_)
    refine ht_seq (ht_asg (ev_at (ev_var rfl) (ev_var rfl) (by omega)) ?_)
    refine ht_app (d := .str (rowT k (R.getD k 0) (ps.getD (R.getD k 0) 0) n)) rfl (ev_joined ?_) (by simp [textOf]; omega) ⟨_, _, _, by rw [text_more]; rfl⟩
    have h1 := sI_small (k := k) (by omega)
    have h2 := sI_small (k := R.getD k 0) (by omega)
    have h3 := sI_small (k := n) n8
    have h4 := sI_len (by decide) pk
    have e1 : (Str.ofString ": room ").length = 7 := by decide +kernel
    have e2 : (Str.ofString " pays ").length = 6 := by decide +kernel
    have e3 : (Str.ofString "/").length = 1 := by decide +kernel
    have e0 : Str.empty.length = 0 := rfl
    have bk : ∀ {m : Nat}, m ≤ 8 → ((m : Int)).natAbs < 10 ^ 100 := fun {m} h => Nat.lt_trans (small_nat h) (by decide +kernel)
    refine ej_cons (ev_fmt (ev_var rfl) (bk (m := k) (by omega))) (by omega) ?_
    rw [Str.empty_append]
    refine ej_cons ev_str (by omega) (ej_cons (ev_fmt (ev_var rfl) (bk (m := R.getD k 0) (by omega))) (by simp only [Str.length_append]; omega) (ej_cons ev_str (by simp only [Str.length_append]; omega) (ej_cons (ev_fmt (ev_var rfl) (big pk)) (by simp only [Str.length_append]; omega) (ej_cons ev_str (by simp only [Str.length_append]; omega) (ej_cons (ev_fmt (ev_var rfl) (bk n8)) (by simp only [Str.length_append]; omega) ej_nil)))))
  · rintro Γ' ⟨s4, s5, s6, rfl⟩
    rw [Int.toNat_natCast]
    exact ht_ret (ev_frz (ev_join ev_str (ev_var rfl) (text_sum q n8 lp hp))) rfl
/-! ### _law_part_by -/
def partIt (x : Int) : Int :=
  if x % 4 = 0 then x / 4 % 41 - 20 else
  if x % 4 = 1 then x / 4 % (2 * 10 ^ (30 : Int).toNat - 1) - 10 ^ (30 : Int).toNat + 1 else
  if x % 4 = 2 then [0, 10 ^ (30 : Int).toNat - 1, 1 - 10 ^ (30 : Int).toNat, 10 ^ (29 : Int).toNat, -1, 9, 10, -10].getD (x / 4 % 8).toNat 0 else
  x / 4 % 20000000001 - 10000000000
def S_law_part_by (c : CA) (ds : List PyData) (r : Res) : Prop := ∃ x : Int, ds = [.int x] ∧ r = .ok (.int (partIt x))
abbrev t_law_part_by (K : PySem.W.Frag) (c : CA) (E : XK) : TS :=
  (tSeq (tAsg (tOp rModI (tVar 0) (tC (.int 4))) (gName 1))
    (tSeq (tIfS (tTest (tOp (rEq2 K) (tVar 1) (tC (.int 0)))) (tRet (tOp rSubI (tOp rModI (tOp rDivI (tVar 0) (tC (.int 4))) (tC (.int 41))) (tC (.int 20)))) tNext)
    (tSeq (tIfS (tTest (tOp (rEq2 K) (tVar 1) (tC (.int 1)))) (tRet (tOp rAdd3 (tOp rSubI (tOp rModI (tOp rDivI (tVar 0) (tC (.int 4))) (tOp rSubI (tOp rMul2 (tC (.int 2)) (tOp rPowI (tC (.int 10)) (tC (.int 30)))) (tC (.int 1)))) (tOp rPowI (tC (.int 10)) (tC (.int 30)))) (tC (.int 1)))) tNext)
    (tSeq (tIfS (tTest (tOp (rEq2 K) (tVar 1) (tC (.int 2)))) (tRet (tOp (rIx K) (tLst (tCons (tC (.int 0)) (tCons (tOp rSubI (tOp rPowI (tC (.int 10)) (tC (.int 30))) (tC (.int 1))) (tCons (tOp rSubI (tC (.int 1)) (tOp rPowI (tC (.int 10)) (tC (.int 30)))) (tCons (tOp rPowI (tC (.int 10)) (tC (.int 29))) (tCons (tUn (rU fun i => .int (-i)) (tC (.int 1))) (tCons (tC (.int 9)) (tCons (tC (.int 10)) (tCons (tUn (rU fun i => .int (-i)) (tC (.int 10))) tNil))))))))) (tOp rModI (tOp rDivI (tVar 0) (tC (.int 4))) (tC (.int 8))))) tNext)
    (tRet (tOp rSubI (tOp rModI (tOp rDivI (tVar 0) (tC (.int 4))) (tC (.int 20000000001))) (tC (.int 10000000000))))))))
abbrev N_law_part_by : List Str := ["_law_cell", "_law_mode"]
theorem pick_int {ns : List Int} {k : Nat} (h : k < ns.length) : (ns.map PyData.int).getD k .none = .int (ns.getD k 0) := by
  rw [List.getD_eq_getElem?_getD, List.getD_eq_getElem?_getD, List.getElem?_map, List.getElem?_eq_getElem h]
  rfl
theorem ht_law_part_by (h : S_law_part_by c ds r) : HT K E (t_law_part_by K c E) (env0 N_law_part_by ds) (Post r) := by
  obtain ⟨x, rfl, rfl⟩ := h
  show HT K E _ [.da (.int x), .no] _
  have pw : ∀ {Γ' : Env}, EvD K (tOp rPowI (tC (.int 10)) (tC (.int 30))) Γ' (.int (10 ^ (30 : Int).toNat)) := ev_pow ev_int ev_int ⟨by decide, by decide, by decide⟩
  have pw9 : ∀ {Γ' : Env}, EvD K (tOp rPowI (tC (.int 10)) (tC (.int 29))) Γ' (.int (10 ^ (29 : Int).toNat)) := ev_pow ev_int ev_int ⟨by decide, by decide, by decide⟩
  have go : ∀ {i : Int}, partIt x = i → Post (.ok (.int (partIt x))) (.rt (.int i)) := fun h => by rw [h]; rfl
  refine ht_seq (ht_asg (ev_mod (ev_var rfl) ev_int (by decide)) ?_)
  refine ht_seq (ht_if (et_test (ev_eqI (ev_var rfl) ev_int)) (fun h => ?_) (fun h => ht_next ?_))
  · have h := of_decide_eq_true h
    exact ht_ret (ev_sub (ev_mod (ev_div (ev_var rfl) ev_int ⟨by decide, by decide⟩) ev_int (by decide)) ev_int) (go (by rw [partIt, if_pos h]))
  have h0 := of_decide_eq_false h
  refine ht_seq (ht_if (et_test (ev_eqI (ev_var rfl) ev_int)) (fun h => ?_) (fun h => ht_next ?_))
  · have h := of_decide_eq_true h
    exact ht_ret (ev_add (ev_sub (ev_mod (ev_div (ev_var rfl) ev_int ⟨by decide, by decide⟩) (ev_sub (ev_mul ev_int pw (.inl (by decide))) ev_int) (by decide)) pw) ev_int) (go (by rw [partIt, if_neg h0, if_pos h]))
  have h1 := of_decide_eq_false h
  refine ht_seq (ht_if (et_test (ev_eqI (ev_var rfl) ev_int)) (fun h => ?_) (fun h => ht_next ?_))
  · have h := of_decide_eq_true h
    obtain ⟨k, ek, hk⟩ := rem_of (x / 4) (m := 8) (by decide)
    have hk : k < 8 := by omega
    refine ht_ret (evd_eq (ev_pick (k := k) (ds := [0, 10 ^ (30 : Int).toNat - 1, 1 - 10 ^ (30 : Int).toNat, 10 ^ (29 : Int).toNat, -1, 9, 10, -10].map PyData.int) (EvO.toD (eo_lst (ea_cons ev_int (ea_cons (ev_sub pw ev_int) (ea_cons (ev_sub ev_int pw) (ea_cons pw9 (ea_cons (ev_neg ev_int) (ea_cons ev_int (ea_cons ev_int (ea_cons (ev_neg ev_int) ea_nil)))))))) (by simp))) (evd_eq (ev_mod (ev_div (ev_var rfl) ev_int ⟨by decide, by decide⟩) ev_int (by decide)) (by rw [ek])) (by simp; omega)) (pick_int (by simp; omega))) (go (by rw [partIt, if_neg h0, if_neg h1, if_pos h, ek, Int.toNat_natCast]))
  have h2 := of_decide_eq_false h
  exact ht_ret (ev_sub (ev_mod (ev_div (ev_var rfl) ev_int ⟨by decide, by decide⟩) ev_int (by decide)) ev_int) (go (by rw [partIt, if_neg h0, if_neg h1, if_neg h2]))
theorem partIt_ok (x : Int) : (partIt x).natAbs < 10 ^ 40 := by
  have e30 : (10 : Int) ^ (30 : Int).toNat = 1000000000000000000000000000000 := by decide
  have e29 : (10 : Int) ^ (29 : Int).toNat = 100000000000000000000000000000 := by decide
  have e40 : (10 : Nat) ^ 40 = 10000000000000000000000000000000000000000 := by decide
  unfold partIt
  rw [e30, e29, e40]
  split
  · omega
  split
  · omega
  split
  · have : (x / 4 % 8).toNat < 8 := by omega
    generalize (x / 4 % 8).toNat = k at this
    match k, this with
    | 0, _ => decide
    | 1, _ => decide
    | 2, _ => decide
    | 3, _ => decide
    | 4, _ => decide
    | 5, _ => decide
    | 6, _ => decide
    | 7, _ => decide
  · omega
/-! ### law -/
def S_law_k11 (c : CA) (ds : List PyData) (r : Res) : Prop := ∃ ns : List Int, ds = [scr ns] ∧ ns.length ≤ 63 ∧ r = .ok (.bool true)
abbrev t_law_k11 (K : PySem.W.Frag) (c : CA) (E : XK) : TS :=
  (tSeq (tAsg (tOp rAdd3 (tC (.int 1)) (tOp rModI (tCall (spOf K (S_law_cell_at c)) [] E (tCons (tVar 0) (tCons (tC (.int 0)) tNil))) (tC (.int 8)))) (gName 1))
    (tSeq (tAsg (tCall (spOf K (S_law_rooms_by c)) [] E (tCons (tCall (spOf K (S_law_cell_at c)) [] E (tCons (tVar 0) (tCons (tC (.int 1)) tNil))) (tCons (tVar 1) tNil))) (gName 2))
    (tSeq (tAsg (tLc (iRng1 (tCons (tVar 1) tNil)) (gName 10) tYes (tCall (spOf K (S_law_part_by c)) [] E0 (tCons (tCall (spOf K (S_law_cell_at c)) [] E0 (tCons (tVar 0) (tCons (tOp rAdd3 (tC (.int 2)) (tVar 10)) tNil))) tNil)) [10]) (gName 3))
    (tSeq (tAsg (tLst (tCons (tCB (rListV K) (tCons (tVar 2) tNil)) (tCons (tCB (rListV K) (tCons (tVar 3) tNil)) tNil))) (gName 4))
    (tSeq (tAsg (tCall (spOf K (S_shown c)) [] E (tCons (tOp (rIx K) (tVar 4) (tC (.int 0))) (tCons (tOp (rIx K) (tVar 4) (tC (.int 1))) tNil))) (gName 5))
    (tSeq (tAsg (tLst tNil) (gName 6))
    (tSeq (tFor (iRng1 (tCons (tVar 1) tNil)) (gName 7) (tSeq (tAsg (tCB rStrI (tCons (tOp (rIx K) (tVar 3) (tOp (rIx K) (tVar 2) (tVar 7))) tNil)) (gName 8))
    (tSeq (tAsg (tOp rAdd3 (tOp rAdd3 (tCB rStrI (tCons (tVar 7) tNil)) (tC (.str ": room "))) (tCB rStrI (tCons (tOp (rIx K) (tVar 2) (tVar 7)) tNil))) (gName 9))
    (tDrop (tBM K "list" rAppend (tVar 6) (tCons (tOp rAdd3 (tOp rAdd3 (tOp rAdd3 (tOp rAdd3 (tVar 9) (tC (.str " pays "))) (tVar 8)) (tC (.str "/"))) (tCB rStrI (tCons (tVar 1) tNil))) tNil))))))
    (tRet (tAndV (tOp (rEq2 K) (tVar 4) (tLst (tCons (tVar 2) (tCons (tVar 3) tNil)))) (tAndV (tCB (rIsi K) (tCons (tVar 5) (tCons (tC (.ty "str")) tNil))) (tOp (rEq2 K) (tVar 5) (tJoinL K (tC (.str "\n")) (tVar 6)))))))))))))
abbrev N_law_k11 : List Str := ["_law_script", "_law_many", "_law_rooms", "_law_parts", "_law_handed", "_law_found", "_law_due", "_law_lodger", "_law_part", "_law_start", "_law_room"]
theorem kit_str : kitB (tyD (.str x)) "str" = some true := by show kitB "str" "str" = some true; decide +kernel
theorem ht_law_k11 (h : S_law_k11 c ds r) : HT K E (t_law_k11 K c E) (env0 N_law_k11 ds) (Post r) := by
  obtain ⟨ns, rfl, hn, rfl⟩ := h
  show HT K E _ [.da (scr ns), .no, .no, .no, .no, .no, .no, .no, .no, .no, .no] _
  obtain ⟨n, en, n1, n8⟩ : ∃ n : Nat, 1 + ce ns 0 % 8 = (n : Int) ∧ 1 ≤ n ∧ n ≤ 8 := ⟨(1 + ce ns 0 % 8).toNat, by omega, by omega, by omega⟩
  refine ht_seq (ht_asg (d := .int (n : Int)) (evd_eq (ev_add ev_int (ev_mod (ev_ce (k := 0) (ev_var rfl) ev_int hn) ev_int (by decide))) (by rw [en])) ?_)
  have q := roomsBy_rms (ce ns 1) n
  refine ht_seq (ht_asg (EvO.toD (eo_call (ea_cons (ev_ce (k := 1) (ev_var rfl) ev_int hn) (ea_cons (ev_var rfl) ea_nil)) ⟨_, n, rfl, n8, rfl⟩)) ?_)
  generalize roomsBy (ce ns 1) n = R at q ⊢
  refine ht_seq (ht_asg (d := li ((List.range n).map fun k => partIt (ce ns (2 + k)))) (evd_eq (EvO.toD (eo_mapR (n := (n : Int)) (fun k => .int (partIt (ce ns (2 + k)))) (ea_cons (ev_var rfl) ea_nil) (by omega) fun k hk => ev_call (ea_cons (ev_ce (k := 2 + k) (ev_var rfl) (evd_eq (ev_add ev_int (ev_var rfl)) (congrArg PyData.int (by push_cast; rfl))) hn) ea_nil) ⟨_, rfl, rfl⟩)) (by rw [Int.toNat_natCast, li, List.map_map]; rfl)) ?_)
  have lp : ((List.range n).map fun k => partIt (ce ns (2 + k))).length = n := by simp
  have hp : ∀ p ∈ (List.range n).map (fun k => partIt (ce ns (2 + k))), p.natAbs < 10 ^ 40 := fun p h => by
    obtain ⟨k, _, rfl⟩ := List.mem_map.mp h
    exact partIt_ok _
  generalize (List.range n).map (fun k => partIt (ce ns (2 + k))) = ps at lp hp ⊢
  show HT K E _ [.da (scr ns), .da (.int (n : Int)), .da (ln R), .da (li ps), .no, .no, .no, .no, .no, .no, .no] _
  refine ht_seq (ht_asg (d := .list [ln R, li ps]) (EvO.toD (eo_lst (ea_cons (EvO.toD (eo_list (ev_var rfl))) (ea_cons (EvO.toD (eo_list (ev_var rfl))) ea_nil)) (by simp))) ?_)
  refine ht_seq (ht_asg (ev_call (ea_cons (ev_ixL (ev_var rfl) ev_int rfl) (ea_cons (ev_ixL (ev_var rfl) ev_int rfl) ea_nil)) ⟨R, ps, n, q, n8, lp, hp, rfl, rfl⟩) ?_)
  refine ht_seq (ht_asgO (eo_lst ea_nil (by simp)) ?_)
  refine ht_seq (ht_forR (n := (n : Int)) (fun k Γ' => ∃ s7 s8 s9, Γ' = [.da (scr ns), .da (.int (n : Int)), .da (ln R), .da (li ps), .da (.list [ln R, li ps]), .da (.str (Txt.join "\n" (textOf R ps n n))), .ow ((textOf R ps n k).map .str), s7, s8, s9, .no]) (ea_cons (ev_var rfl) ea_nil) (by omega) ⟨_, _, _, rfl⟩ ?_ ?_)
  · rintro k Γ' hk ⟨s7, s8, s9, rfl⟩
    have hk : k < n := by omega
    have hr := q.at_lt hk
    have pk := part_ok q lp hp hk
    have h1 := sI_small (k := k) (by omega)
    have h2 := sI_small (k := R.getD k 0) (by omega)
    have h3 := sI_small (k := n) n8
    have h4 := sI_len (by decide) pk
    have e1 : (Str.ofString ": room ").length = 7 := by decide +kernel
    have e2 : (Str.ofString " pays ").length = 6 := by decide +kernel
    have e3 : (Str.ofString "/").length = 1 := by decide +kernel
    have sl : (100000 : Nat) ≤ sizeLine := by decide
    have bk : ∀ {m : Nat}, m ≤ 8 → ((m : Int)).natAbs < 10 ^ 100 := fun {m} h => Nat.lt_trans (small_nat h) (by decide +kernel)
    refine ht_seq (ht_asg (ev_strI (ev_at (ev_var rfl) (ev_roomOf q (ev_var rfl) (ev_var rfl) hk) (by omega)) (big pk)) ?_)
    refine ht_seq (ht_asg (ev_addS (ev_addS (ev_strI (ev_var rfl) (bk (m := k) (by omega))) ev_str (by omega)) (ev_strI (ev_roomOf q (ev_var rfl) (ev_var rfl) hk) (bk (m := R.getD k 0) (by omega))) (by simp only [Str.length_append]; omega)) ?_)
    refine ht_app (d := .str (rowT k (R.getD k 0) (ps.getD (R.getD k 0) 0) n)) rfl (ev_addS (ev_addS (ev_addS (ev_addS (ev_var rfl) ev_str (by simp only [Str.length_append]; omega)) (ev_var rfl) (by simp only [Str.length_append]; omega)) ev_str (by simp only [Str.length_append]; omega)) (ev_strI (ev_var rfl) (bk n8)) (by simp only [Str.length_append]; omega)) (by simp [textOf]; omega) ⟨_, _, _, by rw [text_more]; rfl⟩
  · rintro Γ' ⟨s7, s8, s9, rfl⟩
    rw [Int.toNat_natCast]
    have sh2 : Shp 2 (.list [ln R, li ps]) := shp_listI fun x hx => by
      rcases List.mem_cons.mp hx with e | e
      · subst e; exact shp_ln _
      · rcases List.mem_cons.mp e with e | e
        · subst e; exact shp_li _
        · cases e
    refine ht_ret (ev_and (b := true) (ev_eqSelf (ev_var rfl) (EvO.toD (eo_lst (ea_cons (ev_var rfl) (ea_cons (ev_var rfl) ea_nil)) (by simp))) sh2) fun _ => ev_and (b := true) (ev_isi (ev_var rfl) kit_str) fun _ => ev_frz (evd_eq (ev_eqS (ev_var rfl) (ev_join ev_str (ev_var rfl) (text_sum q n8 lp hp))) (by simp))) rfl
end
end PD

set_option Elab.async false
set_option linter.all false
set_option maxRecDepth 100000
set_option maxHeartbeats 4000000
namespace D
open PySem L2 PD
def topS (i : Nat) : Stmt := PySem.Challenge.pw_roomshare_k11_shown.main.body.getD i (.Pass ⟨0, 0, 0, 0⟩)
abbrev s_law_rooms_by : Stmt := topS 4
theorem sc_law_rooms_by : FnScope N_law_rooms_by ["_law_cell", "_law_many"] (defScope s_law_rooms_by) := ⟨rfl, rfl, rfl, by decide +kernel, rfl, by decide +kernel, by decide +kernel⟩
abbrev s_shown : Stmt := topS 1
theorem sc_shown : FnScope N_shown ["rooms", "parts"] (defScope s_shown) := ⟨rfl, rfl, rfl, by decide +kernel, rfl, by decide +kernel, by decide +kernel⟩
abbrev s_law_cell_at : Stmt := topS 3
theorem sc_law_cell_at : FnScope N_law_cell_at ["_law_script", "_law_k"] (defScope s_law_cell_at) := ⟨rfl, rfl, rfl, by decide +kernel, rfl, by decide +kernel, by decide +kernel⟩
abbrev s_law_part_by : Stmt := topS 5
theorem sc_law_part_by : FnScope N_law_part_by ["_law_cell"] (defScope s_law_part_by) := ⟨rfl, rfl, rfl, by decide +kernel, rfl, by decide +kernel, by decide +kernel⟩
abbrev s_law_k11 : Stmt := topS 6
theorem sc_law_k11 : FnScope N_law_k11 ["_law_script"] (defScope s_law_k11) := ⟨rfl, rfl, rfl, by decide +kernel, rfl, by decide +kernel, by decide +kernel⟩
theorem len_law_rooms_by {c : CA} {ds : List PyData} {r : Res} (h : S_law_rooms_by c ds r) : ds.length = 2 := by
  simp only [S_law_rooms_by, S_ahead] at h; grind (ematch := 30) (gen := 30)
theorem len_shown {c : CA} {ds : List PyData} {r : Res} (h : S_shown c ds r) : ds.length = 2 := by
  simp only [S_shown, S_ahead] at h; grind (ematch := 30) (gen := 30)
theorem len_law_cell_at {c : CA} {ds : List PyData} {r : Res} (h : S_law_cell_at c ds r) : ds.length = 2 := by
  simp only [S_law_cell_at, S_ahead] at h; grind (ematch := 30) (gen := 30)
theorem len_law_part_by {c : CA} {ds : List PyData} {r : Res} (h : S_law_part_by c ds r) : ds.length = 1 := by
  simp only [S_law_part_by, S_ahead] at h; grind (ematch := 30) (gen := 30)
theorem len_law_k11 {c : CA} {ds : List PyData} {r : Res} (h : S_law_k11 c ds r) : ds.length = 1 := by
  simp only [S_law_k11, S_ahead] at h; grind (ematch := 30) (gen := 30)
structure Facts (K : PySem.W.Frag) (mg : Str → Option Value) : Type where
  c : CA
  b_isinstance : mg "isinstance" = none
  b_len : mg "len" = none
  b_list : mg "list" = none
  b_range : mg "range" = none
  b_str : mg "str" = none
  law_rooms_by : Def1 K mg "_law_rooms_by" s_law_rooms_by ["_law_cell", "_law_many"]
  shown : Def1 K mg "shown" s_shown ["rooms", "parts"]
  law_cell_at : Def1 K mg "_law_cell_at" s_law_cell_at ["_law_script", "_law_k"]
  law_part_by : Def1 K mg "_law_part_by" s_law_part_by ["_law_cell"]
  law_k11 : Def1 K mg "law" s_law_k11 ["_law_script"]
section
variable {Pg : Program} {w : World} {K : PySem.W.Frag} {mg : Str → Option Value} {base : Heap}
theorem ok_law_rooms_by (T : Facts K mg) : FnOk Pg w K mg base (L2.CX Pg w) 1 T.law_rooms_by.f T.law_rooms_by.fd ["_law_cell", "_law_many"] (spOf K (S_law_rooms_by T.c)) := by
  refine fn_ok T.law_rooms_by.F sc_law_rooms_by (fun ds r h => len_law_rooms_by h) (fun cdv A outer s H E hr => ⟨_, ?_, fun ds r h => ht_law_rooms_by h⟩)
  exact (pss_cons (ps_set (i := 2) sc_law_rooms_by.nd rfl (by first | exact Or.inl rfl | exact Or.inr rfl) (pe_listRg rfl (by rfl) T.b_list (prg_1 (by rfl) T.b_range (pv 1))))
    (pss_cons (ps_set (i := 3) sc_law_rooms_by.nd rfl (by first | exact Or.inl rfl | exact Or.inr rfl) (pe_lst pa_nil))
    (pss_cons (ps_while (passes_of rfl) (pt_cmpR o_gt (pe_callB c_len (by rfl) T.b_len bt_len (pa_cons (pv 2) pa_nil)) pe_int (nomark _)) (pss_cons (ps_expr (pe_bm PySem.F.plainAttrs_list PySem.F.slot_list_append PySem.F.type_list_append mt_append (pv 3) (pa_cons (pe_bm PySem.F.plainAttrs_list PySem.F.slot_list_pop PySem.F.type_list_pop mt_popAt (pv 2) (pa_cons (pe_op o_mod (pv 0) (pe_callB c_len (by rfl) T.b_len bt_len (pa_cons (pv 2) pa_nil))) pa_nil)) pa_nil)))
    (pss_one (ps_set (i := 0) sc_law_rooms_by.nd rfl (by first | exact Or.inl rfl | exact Or.inr rfl) (pe_op o_div (pv 0) (pe_op o_add (pe_callB c_len (by rfl) T.b_len bt_len (pa_cons (pv 2) pa_nil)) pe_int))))))
    (pss_one (ps_ret (pv 3))))))
theorem ok_shown (T : Facts K mg) : FnOk Pg w K mg base (L2.CX Pg w) 1 T.shown.f T.shown.fd ["rooms", "parts"] (spOf K (S_shown T.c)) := by
  refine fn_ok T.shown.F sc_shown (fun ds r h => len_shown h) (fun cdv A outer s H E hr => ⟨_, ?_, fun ds r h => ht_shown h⟩)
  exact (pss_cons (ps_set (i := 2) sc_shown.nd rfl (by first | exact Or.inl rfl | exact Or.inr rfl) (pe_callB c_len (by rfl) T.b_len bt_len (pa_cons (pv 0) pa_nil)))
    (pss_cons (ps_set (i := 3) sc_shown.nd rfl (by first | exact Or.inl rfl | exact Or.inr rfl) (pe_lst pa_nil))
    (pss_cons (ps_for (passes_of rfl) rfl (pi_range1 (by rfl) T.b_range (pa_cons (pv 2) pa_nil)) (pg_name (i := 4) sc_shown.nd rfl (by first | exact Or.inl rfl | exact Or.inr rfl)) (pss_cons (ps_set (i := 5) sc_shown.nd rfl (by first | exact Or.inl rfl | exact Or.inr rfl) (pe_ix ix_seq (pv 0) (pv 4) (fun _ _ => rfl)))
    (pss_cons (ps_set (i := 6) sc_shown.nd rfl (by first | exact Or.inl rfl | exact Or.inr rfl) (pe_ix ix_seq (pv 1) (pv 5) (fun _ _ => rfl)))
    (pss_one (ps_expr (pe_bm PySem.F.plainAttrs_list PySem.F.slot_list_append PySem.F.type_list_append mt_append (pv 3) (pa_cons (p_joined (PJ.cons (pe_fmt (pv 4)) (PJ.cons pe_str (PJ.cons (pe_fmt (pv 5)) (PJ.cons pe_str (PJ.cons (pe_fmt (pv 6)) (PJ.cons pe_str (PJ.cons (pe_fmt (pv 2)) PJ.nil)))))))) pa_nil)))))))
    (pss_one (ps_ret (pe_bm PySem.F.plainAttrs_str PySem.F.slot_str_join PySem.F.type_str_join m_join pe_str (pa_cons (pv 3) pa_nil)))))))
theorem ok_law_cell_at (T : Facts K mg) : FnOk Pg w K mg base (L2.CX Pg w) 1 T.law_cell_at.f T.law_cell_at.fd ["_law_script", "_law_k"] (spOf K (S_law_cell_at T.c)) := by
  refine fn_ok T.law_cell_at.F sc_law_cell_at (fun ds r h => len_law_cell_at h) (fun cdv A outer s H E hr => ⟨_, ?_, fun ds r h => ht_law_cell_at h⟩)
  exact (pss_cons (ps_if (pt_cmpR o_lt (pv 1) (pe_callB c_len (by rfl) T.b_len bt_len (pa_cons (pv 0) pa_nil)) (nomark _)) (pss_one (ps_ret (pe_ix ix_seq (pv 0) (pv 1) (fun _ _ => rfl)))) pss_nil)
    (pss_one (ps_ret pe_int)))
theorem ok_law_part_by (T : Facts K mg) : FnOk Pg w K mg base (L2.CX Pg w) 1 T.law_part_by.f T.law_part_by.fd ["_law_cell"] (spOf K (S_law_part_by T.c)) := by
  refine fn_ok T.law_part_by.F sc_law_part_by (fun ds r h => len_law_part_by h) (fun cdv A outer s H E hr => ⟨_, ?_, fun ds r h => ht_law_part_by h⟩)
  exact (pss_cons (ps_set (i := 1) sc_law_part_by.nd rfl (by first | exact Or.inl rfl | exact Or.inr rfl) (pe_op o_mod (pv 0) pe_int))
    (pss_cons (ps_if (pt_cmpR (o_eq hr.units) (pv 1) pe_int (nomark _)) (pss_one (ps_ret (pe_op o_sub (pe_op o_mod (pe_op o_div (pv 0) pe_int) pe_int) pe_int))) pss_nil)
    (pss_cons (ps_if (pt_cmpR (o_eq hr.units) (pv 1) pe_int (nomark _)) (pss_one (ps_ret (pe_op o_add (pe_op o_sub (pe_op o_mod (pe_op o_div (pv 0) pe_int) (pe_op o_sub (pe_op o_mul pe_int (pe_op o_pow pe_int pe_int)) pe_int)) (pe_op o_pow pe_int pe_int)) pe_int))) pss_nil)
    (pss_cons (ps_if (pt_cmpR (o_eq hr.units) (pv 1) pe_int (nomark _)) (pss_one (ps_ret (pe_ix ix_seq (pe_lst (pa_cons pe_int (pa_cons (pe_op o_sub (pe_op o_pow pe_int pe_int) pe_int) (pa_cons (pe_op o_sub pe_int (pe_op o_pow pe_int pe_int)) (pa_cons (pe_op o_pow pe_int pe_int) (pa_cons (pe_un un_neg pe_int) (pa_cons pe_int (pa_cons pe_int (pa_cons (pe_un un_neg pe_int) pa_nil))))))))) (pe_op o_mod (pe_op o_div (pv 0) pe_int) pe_int) (fun _ _ => rfl)))) pss_nil)
    (pss_one (ps_ret (pe_op o_sub (pe_op o_mod (pe_op o_div (pv 0) pe_int) pe_int) pe_int)))))))
theorem ok_law_k11 (T : Facts K mg) : FnOk Pg w K mg base (L2.CX Pg w) 2 T.law_k11.f T.law_k11.fd ["_law_script"] (spOf K (S_law_k11 T.c)) := by
  refine fn_ok T.law_k11.F sc_law_k11 (fun ds r h => len_law_k11 h) (fun cdv A outer s H E hr => ⟨_, ?_, fun ds r h => ht_law_k11 h⟩)
  exact (pss_cons (ps_set (i := 1) sc_law_k11.nd rfl (by first | exact Or.inl rfl | exact Or.inr rfl) (pe_op o_add pe_int (pe_op o_mod (pe_call (ok_law_cell_at T) (hr.mono (by decide)) (by rfl) T.law_cell_at.m T.law_cell_at.F.kp T.law_cell_at.b .nil (pass_call rfl rfl rfl rfl) (pa_cons (pv 0) (pa_cons pe_int pa_nil))) pe_int)))
    (pss_cons (ps_set (i := 2) sc_law_k11.nd rfl (by first | exact Or.inl rfl | exact Or.inr rfl) (pe_call (ok_law_rooms_by T) (hr.mono (by decide)) (by rfl) T.law_rooms_by.m T.law_rooms_by.F.kp T.law_rooms_by.b .nil (pass_call rfl rfl rfl rfl) (pa_cons (pe_call (ok_law_cell_at T) (hr.mono (by decide)) (by rfl) T.law_cell_at.m T.law_cell_at.F.kp T.law_cell_at.b .nil (pass_call rfl rfl rfl rfl) (pa_cons (pv 0) (pa_cons pe_int pa_nil))) (pa_cons (pv 1) pa_nil))))
    (pss_cons (ps_setLc (i := 3) (own := [("_law_room", 10)]) rfl sc_law_k11.nd rfl rfl (sw_true rfl rfl rfl (by decide +kernel)) (pi_range1 (by rfl) T.b_range (pa_cons (pv 1) pa_nil)) (blkOk_by (own := [("_law_room", 10)]) (N := N_law_k11) (sc := defScope s_law_k11) (by decide +kernel)) (fun _ _ _ _ _ => (pg_name (i := 10) sc_law_k11.nd rfl (by first | exact Or.inl rfl | exact Or.inr rfl))) (fun _ _ _ _ _ => pts_nil) (fun _ _ _ _ _ => (pe_call (ok_law_part_by T) (hr.mono (by decide)) (by rfl) T.law_part_by.m T.law_part_by.F.kp T.law_part_by.b .nil passL (pa_cons (pe_call (ok_law_cell_at T) (hr.mono (by decide)) (by rfl) T.law_cell_at.m T.law_cell_at.F.kp T.law_cell_at.b .nil passL (pa_cons (pv 0) (pa_cons (pe_op o_add pe_int (pv 10)) pa_nil))) pa_nil))))
    (pss_cons (ps_set (i := 4) sc_law_k11.nd rfl (by first | exact Or.inl rfl | exact Or.inr rfl) (pe_lst (pa_cons (pe_callTy c_list (by rfl) T.b_list bt_list (pa_cons (pv 2) pa_nil)) (pa_cons (pe_callTy c_list (by rfl) T.b_list bt_list (pa_cons (pv 3) pa_nil)) pa_nil))))
    (pss_cons (ps_set (i := 5) sc_law_k11.nd rfl (by first | exact Or.inl rfl | exact Or.inr rfl) (pe_call (ok_shown T) (hr.mono (by decide)) (by rfl) T.shown.m T.shown.F.kp T.shown.b .nil (pass_call rfl rfl rfl rfl) (pa_cons (pe_ix ix_seq (pv 4) pe_int (fun _ _ => rfl)) (pa_cons (pe_ix ix_seq (pv 4) pe_int (fun _ _ => rfl)) pa_nil))))
    (pss_cons (ps_set (i := 6) sc_law_k11.nd rfl (by first | exact Or.inl rfl | exact Or.inr rfl) (pe_lst pa_nil))
    (pss_cons (ps_for (passes_of rfl) rfl (pi_range1 (by rfl) T.b_range (pa_cons (pv 1) pa_nil)) (pg_name (i := 7) sc_law_k11.nd rfl (by first | exact Or.inl rfl | exact Or.inr rfl)) (pss_cons (ps_set (i := 8) sc_law_k11.nd rfl (by first | exact Or.inl rfl | exact Or.inr rfl) (pe_callTy c_str (by rfl) T.b_str bt_str (pa_cons (pe_ix ix_seq (pv 3) (pe_ix ix_seq (pv 2) (pv 7) (fun _ _ => rfl)) (fun _ _ => rfl)) pa_nil)))
    (pss_cons (ps_set (i := 9) sc_law_k11.nd rfl (by first | exact Or.inl rfl | exact Or.inr rfl) (pe_op o_add (pe_op o_add (pe_callTy c_str (by rfl) T.b_str bt_str (pa_cons (pv 7) pa_nil)) pe_str) (pe_callTy c_str (by rfl) T.b_str bt_str (pa_cons (pe_ix ix_seq (pv 2) (pv 7) (fun _ _ => rfl)) pa_nil))))
    (pss_one (ps_expr (pe_bm PySem.F.plainAttrs_list PySem.F.slot_list_append PySem.F.type_list_append mt_append (pv 6) (pa_cons (pe_op o_add (pe_op o_add (pe_op o_add (pe_op o_add (pv 9) pe_str) (pv 8)) pe_str) (pe_callTy c_str (by rfl) T.b_str bt_str (pa_cons (pv 1) pa_nil))) pa_nil)))))))
    (pss_one (ps_ret (pe_and (pe_cmpR (o_eq hr.units) (pv 4) (pe_lst (pa_cons (pv 2) (pa_cons (pv 3) pa_nil))) (nomark _)) (pe_and (pe_callB c_isi (by rfl) T.b_isinstance bt_isinstance (pa_cons (pv 5) (pa_cons (pe_bltn (v := .ty "str") (by rfl) T.b_str bt_str rfl) pa_nil))) (pe_one (pe_cmpR (o_eq hr.units) (pv 5) (pe_bm PySem.F.plainAttrs_str PySem.F.slot_str_join PySem.F.type_str_join m_join pe_str (pa_cons (pv 6) pa_nil)) (nomark _))))))))))))))
end
theorem all_mk {l : PySem.W.OpenLaw} {w : World} {K : PySem.W.Frag} {h : Heap} {mg : Str → Option Value} {fa : Addr} (X : K.In h) (G : h.Ns mainGlobals mg) (hfa : mg "law" = some (.ref fa))
    (z_isinstance : PySem.W.nsIn K mainGlobals "isinstance" = some none)
    (z_len : PySem.W.nsIn K mainGlobals "len" = some none)
    (z_list : PySem.W.nsIn K mainGlobals "list" = some none)
    (z_range : PySem.W.nsIn K mainGlobals "range" = some none)
    (z_str : PySem.W.nsIn K mainGlobals "str" = some none)
    {f_law_rooms_by : Addr} {oc_law_rooms_by : Value} {od_law_rooms_by an_law_rooms_by : Option Addr} {sl_law_rooms_by : Array (Option Value)} {kV_law_rooms_by dc_law_rooms_by pm_law_rooms_by cd_law_rooms_by ct_law_rooms_by : Value} (a_law_rooms_by : PySem.W.nsIn K mainGlobals "_law_rooms_by" = some (some (.ref f_law_rooms_by))) (l_law_rooms_by : K.lookup f_law_rooms_by = some ⟨oc_law_rooms_by, od_law_rooms_by, .func (PySem.W.fnOf "_law_rooms_by" "_law_rooms_by" (defArgs s_law_rooms_by) (defBody s_law_rooms_by) (defScope s_law_rooms_by) .none kV_law_rooms_by dc_law_rooms_by pm_law_rooms_by an_law_rooms_by cd_law_rooms_by ct_law_rooms_by), sl_law_rooms_by⟩) (d_law_rooms_by : PySem.W.codeIn K cd_law_rooms_by "_law_rooms_by" = true) (p_law_rooms_by : PySem.W.keepIn K (.ref f_law_rooms_by) = true)
    {f_shown : Addr} {oc_shown : Value} {od_shown an_shown : Option Addr} {sl_shown : Array (Option Value)} {kV_shown dc_shown pm_shown cd_shown ct_shown : Value} (a_shown : PySem.W.nsIn K mainGlobals "shown" = some (some (.ref f_shown))) (l_shown : K.lookup f_shown = some ⟨oc_shown, od_shown, .func (PySem.W.fnOf "shown" "shown" (defArgs s_shown) (defBody s_shown) (defScope s_shown) .none kV_shown dc_shown pm_shown an_shown cd_shown ct_shown), sl_shown⟩) (d_shown : PySem.W.codeIn K cd_shown "shown" = true) (p_shown : PySem.W.keepIn K (.ref f_shown) = true)
    {f_law_cell_at : Addr} {oc_law_cell_at : Value} {od_law_cell_at an_law_cell_at : Option Addr} {sl_law_cell_at : Array (Option Value)} {kV_law_cell_at dc_law_cell_at pm_law_cell_at cd_law_cell_at ct_law_cell_at : Value} (a_law_cell_at : PySem.W.nsIn K mainGlobals "_law_cell_at" = some (some (.ref f_law_cell_at))) (l_law_cell_at : K.lookup f_law_cell_at = some ⟨oc_law_cell_at, od_law_cell_at, .func (PySem.W.fnOf "_law_cell_at" "_law_cell_at" (defArgs s_law_cell_at) (defBody s_law_cell_at) (defScope s_law_cell_at) .none kV_law_cell_at dc_law_cell_at pm_law_cell_at an_law_cell_at cd_law_cell_at ct_law_cell_at), sl_law_cell_at⟩) (d_law_cell_at : PySem.W.codeIn K cd_law_cell_at "_law_cell_at" = true) (p_law_cell_at : PySem.W.keepIn K (.ref f_law_cell_at) = true)
    {f_law_part_by : Addr} {oc_law_part_by : Value} {od_law_part_by an_law_part_by : Option Addr} {sl_law_part_by : Array (Option Value)} {kV_law_part_by dc_law_part_by pm_law_part_by cd_law_part_by ct_law_part_by : Value} (a_law_part_by : PySem.W.nsIn K mainGlobals "_law_part_by" = some (some (.ref f_law_part_by))) (l_law_part_by : K.lookup f_law_part_by = some ⟨oc_law_part_by, od_law_part_by, .func (PySem.W.fnOf "_law_part_by" "_law_part_by" (defArgs s_law_part_by) (defBody s_law_part_by) (defScope s_law_part_by) .none kV_law_part_by dc_law_part_by pm_law_part_by an_law_part_by cd_law_part_by ct_law_part_by), sl_law_part_by⟩) (d_law_part_by : PySem.W.codeIn K cd_law_part_by "_law_part_by" = true) (p_law_part_by : PySem.W.keepIn K (.ref f_law_part_by) = true)
    {f_law_k11 : Addr} {oc_law_k11 : Value} {od_law_k11 an_law_k11 : Option Addr} {sl_law_k11 : Array (Option Value)} {kV_law_k11 dc_law_k11 pm_law_k11 cd_law_k11 ct_law_k11 : Value} (a_law_k11 : PySem.W.nsIn K mainGlobals "law" = some (some (.ref f_law_k11))) (l_law_k11 : K.lookup f_law_k11 = some ⟨oc_law_k11, od_law_k11, .func (PySem.W.fnOf "law" "law" (defArgs s_law_k11) (defBody s_law_k11) (defScope s_law_k11) .none kV_law_k11 dc_law_k11 pm_law_k11 an_law_k11 cd_law_k11 ct_law_k11), sl_law_k11⟩) (d_law_k11 : PySem.W.codeIn K cd_law_k11 "law" = true) (p_law_k11 : PySem.W.keepIn K (.ref f_law_k11) = true)
    : ∃ fd : FuncData, (∀ (s : Shared) (v : Value), BindsTo s fd ⟨[v], []⟩ [("_law_script", v)]) ∧ ∀ base : Heap, K.In base → base.Ns mainGlobals mg → FnOk l.prog w K mg base (L2.CX l.prog w) 2 fa fd ["_law_script"] (spOf K (S_law_k11 ⟨0, 0, 0, 0, 0, 0, 0⟩)) := by
  have e := hfa.symm.trans (PySem.W.mg_of X G a_law_k11)
  cases e
  let T : Facts K mg :=
    { c := ⟨0, 0, 0, 0, 0, 0, 0⟩
      b_isinstance := PySem.W.mg_none_of X G z_isinstance
      b_len := PySem.W.mg_none_of X G z_len
      b_list := PySem.W.mg_none_of X G z_list
      b_range := PySem.W.mg_none_of X G z_range
      b_str := PySem.W.mg_none_of X G z_str
      law_rooms_by := ⟨f_law_rooms_by, _, fun_mk (st := s_law_rooms_by) l_law_rooms_by d_law_rooms_by p_law_rooms_by, PySem.W.mg_of X G a_law_rooms_by, (fun_mk (st := s_law_rooms_by) l_law_rooms_by d_law_rooms_by p_law_rooms_by).binds fun _ _ _ _ _ _ us hl => match us, hl with | [_, _], _ => rfl⟩
      shown := ⟨f_shown, _, fun_mk (st := s_shown) l_shown d_shown p_shown, PySem.W.mg_of X G a_shown, (fun_mk (st := s_shown) l_shown d_shown p_shown).binds fun _ _ _ _ _ _ us hl => match us, hl with | [_, _], _ => rfl⟩
      law_cell_at := ⟨f_law_cell_at, _, fun_mk (st := s_law_cell_at) l_law_cell_at d_law_cell_at p_law_cell_at, PySem.W.mg_of X G a_law_cell_at, (fun_mk (st := s_law_cell_at) l_law_cell_at d_law_cell_at p_law_cell_at).binds fun _ _ _ _ _ _ us hl => match us, hl with | [_, _], _ => rfl⟩
      law_part_by := ⟨f_law_part_by, _, fun_mk (st := s_law_part_by) l_law_part_by d_law_part_by p_law_part_by, PySem.W.mg_of X G a_law_part_by, (fun_mk (st := s_law_part_by) l_law_part_by d_law_part_by p_law_part_by).binds fun _ _ _ _ _ _ us hl => match us, hl with | [_], _ => rfl⟩
      law_k11 := ⟨fa, _, fun_mk (st := s_law_k11) l_law_k11 d_law_k11 p_law_k11, PySem.W.mg_of X G a_law_k11, (fun_mk (st := s_law_k11) l_law_k11 d_law_k11 p_law_k11).binds fun _ _ _ _ _ _ us hl => match us, hl with | [_], _ => rfl⟩ }
  exact ⟨_, fun s v => .of_eq rfl, fun base _ _ => ok_law_k11 T⟩
theorem walk {l : PySem.W.OpenLaw} {q : Program} {loose : List Str} {XP : (Str → Option Value) → Heap → Prop} {YP : World → Heap → Prop} {d : DefRec} {K : Params → PySem.W.Frag} (hn : l.most = some 63) (hdf : d.params.defaults = [])
    (hY : ∀ (w : World) (h : Heap), YP w h → (K w.params).In h)
    (F : ∀ (w : World) (mg : Str → Option Value) (fa : Addr) (h : Heap), (K w.params).In h → h.Ns mainGlobals mg → mg d.name = some (.ref fa) →
      ∃ fd : FuncData, (∀ (s : Shared) (u : Value), BindsTo s fd ⟨[u], []⟩ [("_law_script", u)]) ∧ ∀ base : Heap, (K w.params).In base → base.Ns mainGlobals mg → FnOk l.prog w (K w.params) mg base (L2.CX l.prog w) 2 fa fd ["_law_script"] (spOf (K w.params) (S_law_k11 ⟨0, 0, 0, 0, 0, 0, 0⟩))) :
    PySem.W.WalkO q loose XP YP l.row.toRowW d [] (fun f vs => PySem.call f vs) :=
  L2.walk_of (n := 63) (k := 2) (x := "_law_script") (CX := fun w => L2.CX l.prog w) (sp := fun w => spOf (K w.params) (S_law_k11 ⟨0, 0, 0, 0, 0, 0, 0⟩)) hn (by decide) hdf ⟨rfl, by decide, by decide⟩ hY F (fun _ _ a ns hl _ hS => law_sp hS ⟨ns, rfl, hl, rfl⟩) fun _ _ _ _ _ z => no_cx z
end D

open PySem PySem.W PyProof.Rows in
set_option maxRecDepth 100000 in
set_option maxHeartbeats 0 in
theorem PySem.Challenge.cw_roomshare_k11_shown_holds : PySem.Challenge.rw_roomshare_k11_shown.Holds := by
  w_on; o_law; k_head; (case hw => w_witness2)
  k_fill
  refine D.walk (l := PySem.Challenge.rw_roomshare_k11_shown) rfl rfl (fun w h Y => PySem.W.kIn_of Y) ?F
  case F =>
    intro w mg fa h KX G hmg
    refine' D.all_mk KX G hmg ?z_isinstance ?z_len ?z_list ?z_range ?z_str ?a_law_rooms_by ?l_law_rooms_by ?d_law_rooms_by ?p_law_rooms_by ?a_shown ?l_shown ?d_shown ?p_shown ?a_law_cell_at ?l_law_cell_at ?d_law_cell_at ?p_law_cell_at ?a_law_part_by ?l_law_part_by ?d_law_part_by ?p_law_part_by ?a_law_k11 ?l_law_k11 ?d_law_k11 ?p_law_k11
    (case z_isinstance => k_is)
    (case z_len => k_is)
    (case z_list => k_is)
    (case z_range => k_is)
    (case z_str => k_is)
    (case a_law_rooms_by => k_is)
    (case l_law_rooms_by => k_is)
    (case d_law_rooms_by => k_is)
    (case p_law_rooms_by => k_is)
    (case a_shown => k_is)
    (case l_shown => k_is)
    (case d_shown => k_is)
    (case p_shown => k_is)
    (case a_law_cell_at => k_is)
    (case l_law_cell_at => k_is)
    (case d_law_cell_at => k_is)
    (case p_law_cell_at => k_is)
    (case a_law_part_by => k_is)
    (case l_law_part_by => k_is)
    (case d_law_part_by => k_is)
    (case p_law_part_by => k_is)
    (case a_law_k11 => k_is)
    (case l_law_k11 => k_is)
    (case d_law_k11 => k_is)
    (case p_law_k11 => k_is)
#print axioms PySem.Challenge.cw_roomshare_k11_shown_holds


