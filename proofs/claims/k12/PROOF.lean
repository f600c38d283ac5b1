import PyProof.Rows.All
import Wide.All
import OpenK.AllK
import Wide.FinOn
import HandS.ForMost
import HandS.ForExc
import HandS.IsInst
import HandS.ExcIs
import HandS.TryMany
import HandS.TryOnly
import HandS.Deep
import HandS.EndBits
import HandS.Conv
import HandS.FStr
import HandS.Text
import PySem.Challenge.RW_roomshare_k12_read
set_option Elab.async false
set_option linter.all false
set_option maxRecDepth 100000
set_option maxHeartbeats 1000000
/-! The layer of pure data over HandS. -/
namespace PD
open PySem L2

/-! ### heaps: G, the part that is known as data; H, all that is tracked -/
structure Ext (G H G' H' : Hp) : Prop where
  hh : Same H H'
  gg : Same G G'
  gh : Same G' H'
  fr : ∀ a, G a = none → H a ≠ none → G' a = none
theorem Ext.refl {G H : Hp} (h : Same G H) : Ext G H G H := ⟨Same.refl H, Same.refl G, h, fun _ q _ => q⟩
theorem some_up {H H' : Hp} (e : Same H H') {a : Addr} (h : H a ≠ none) : H' a ≠ none := by
  cases q : H a with
  | none => exact absurd q h
  | some o => rw [e a o q]; exact fun z => nomatch z
theorem Ext.trans {G H G1 H1 G2 H2 : Hp} (a : Ext G H G1 H1) (b : Ext G1 H1 G2 H2) : Ext G H G2 H2 :=
  ⟨a.hh.trans b.hh, a.gg.trans b.gg, b.gh, fun x q n => b.fr x (a.fr x q n) (some_up a.hh n)⟩
theorem same_new {H : Hp} {p : Addr} {o : HO} (h : H p = none) : Same H (upd H p o) := fun b x e => by
  rw [upd_ne (ne_of_none e h)]
  exact e
/-- a new object is laid, and it is data from now on -/
theorem Ext.new {G H : Hp} (h : Same G H) {p : Addr} {o : HO} (hp : H p = none) : Ext G H (upd G p o) (upd H p o) := by
  have gp : G p = none := h.free hp
  refine ⟨same_new hp, same_new gp, fun b x e => ?_, fun a q n => ?_⟩
  · by_cases z : b = p
    · subst z; rw [upd_same] at e ⊢; exact e
    · rw [upd_ne z] at e ⊢; exact h b x e
  · have z : a ≠ p := fun z => n (by rw [z]; exact hp)
    rw [upd_ne z]; exact q
/-- a new object is laid, its own -/
theorem Ext.own {G H : Hp} (h : Same G H) {p : Addr} {o : HO} (hp : H p = none) : Ext G H G (upd H p o) :=
  ⟨same_new hp, Same.refl G, fun b x e => same_new hp b x (h b x e), fun _ q _ => q⟩
/-- the heap grew by untold things -/
theorem Ext.grow {G H H' : Hp} (h : Same G H) (e : Same H H') : Ext G H G H' := ⟨e, Same.refl G, h.trans e, fun _ q _ => q⟩

/-! ### data -/
/-- the script, which is read alone -/
abbrev scr (ns : List Int) : PyData := .dict [(.none, .list (ns.map .int))]
mutual
inductive At (K : PySem.W.Frag) (G : Hp) : V → PyData → Prop
  | non : At K G .non .none
  | bl (b : Bool) : At K G (.bl b) (.bool b)
  | int (i : Int) : At K G (.int i) (.int i)
  | str (x : Str) : At K G (.str x) (.str x)
  | lst {a : Addr} {xs : List V} {ds : List PyData} : G a = some (.lst xs) → AtAll K G xs ds → At K G (.ref a) (.list ds)
  | tup {a : Addr} {xs : List V} {ds : List PyData} : G a = some (.tup xs) → AtAll K G xs ds → At K G (.ref a) (.tuple ds)
  | dic {a : Addr} : G a = some (.dK []) → At K G (.ref a) (.dict [])
  | scr {a : Addr} {xs : List V} {ds : List PyData} : SqL K G a xs → AtAll K G xs ds → At K G (.ref a) (.dict [(.none, .list ds)])
inductive AtAll (K : PySem.W.Frag) (G : Hp) : List V → List PyData → Prop
  | nil : AtAll K G [] []
  | cons {v : V} {vs : List V} {d : PyData} {ds : List PyData} : At K G v d → AtAll K G vs ds → AtAll K G (v :: vs) (d :: ds)
end
section
variable {K : PySem.W.Frag} {G G' H H' : Hp}
mutual
theorem At.mono (e : Same G G') : ∀ (d : PyData) (v : V), At K G v d → At K G' v d
  | .none, _, h => by cases h; exact .non
  | .bool b, _, h => by cases h; exact .bl b
  | .int i, _, h => by cases h; exact .int i
  | .str x, _, h => by cases h; exact .str x
  | .list ds, _, h => by
    cases h with
    | lst h1 h2 => exact .lst (e _ _ h1) (AtAll.mono e ds _ h2)
  | .tuple ds, _, h => by
    cases h with
    | tup h1 h2 => exact .tup (e _ _ h1) (AtAll.mono e ds _ h2)
  | .dict kvs, _, h => by
    cases h with
    | dic h1 => exact .dic (e _ _ h1)
    | scr h1 h2 => exact .scr (e.seq h1) (AtAll.mono e _ _ h2)
theorem AtAll.mono (e : Same G G') : ∀ (ds : List PyData) (vs : List V), AtAll K G vs ds → AtAll K G' vs ds
  | [], _, h => by cases h; exact .nil
  | d :: ds, _, h => by
    cases h with
    | cons h1 h2 => exact .cons (At.mono e d _ h1) (AtAll.mono e ds _ h2)
end
theorem At.up {d : PyData} {v : V} (h : At K G v d) (e : Same G G') : At K G' v d := At.mono e d v h
theorem AtAll.up {ds : List PyData} {vs : List V} (h : AtAll K G vs ds) (e : Same G G') : AtAll K G' vs ds := AtAll.mono e ds vs h
mutual
theorem At.dp : ∀ (d : PyData) (v : V), d.canLay0 = true → At K G v d → Dp K G v d
  | .none, _, _, h => by cases h; exact .non
  | .bool b, _, _, h => by cases h; exact .bl b
  | .int i, _, _, h => by cases h; exact .int i
  | .str x, _, _, h => by cases h; exact .str x
  | .list ds, _, c, h => by
    cases h with
    | lst h1 h2 => exact .lst (SqL.of h1) (AtAll.dp ds _ (by simpa [PyData.canLay0] using c) h2)
  | .tuple ds, _, c, h => by
    cases h with
    | tup h1 h2 => exact .tup (SqT.of h1) (AtAll.dp ds _ (by simpa [PyData.canLay0] using c) h2)
  | .dict kvs, _, c, _ => by simp [PyData.canLay0] at c
theorem AtAll.dp : ∀ (ds : List PyData) (vs : List V), PyData.canLayAll0 ds = true → AtAll K G vs ds → DpAll K G vs ds
  | [], _, _, h => by cases h; exact .nil
  | d :: ds, _, c, h => by
    cases h with
    | cons h1 h2 =>
      have c' : d.canLay0 = true ∧ PyData.canLayAll0 ds = true := by simpa [PyData.canLayAll0] using c
      exact .cons (At.dp d _ c'.1 h1) (AtAll.dp ds _ c'.2 h2)
end
theorem AtAll.length {vs : List V} {ds : List PyData} : AtAll K G vs ds → vs.length = ds.length := by
  induction ds generalizing vs with
  | nil => intro h; cases h; rfl
  | cons d ds ih => intro h; cases h with | cons _ h2 => simp [ih h2]
theorem AtAll.get {vs : List V} {ds : List PyData} {i : Nat} {d : PyData} : AtAll K G vs ds → ds[i]? = some d → ∃ v, vs[i]? = some v ∧ At K G v d := by
  induction ds generalizing vs i with
  | nil => intro _ e; simp at e
  | cons d0 ds ih =>
    intro h e
    cases h with
    | cons h1 h2 =>
      cases i with
      | zero => simp at e; subst e; exact ⟨_, rfl, h1⟩
      | succ i => simp at e; obtain ⟨v, q, a⟩ := ih h2 e; exact ⟨v, by simpa using q, a⟩
theorem AtAll.getV {vs : List V} {ds : List PyData} {i : Nat} {v : V} : AtAll K G vs ds → vs[i]? = some v → ∃ d, ds[i]? = some d ∧ At K G v d := by
  intro h e
  have hl := h.length
  have hi : i < ds.length := by rw [← hl]; exact (List.getElem?_eq_some_iff.mp e).1
  obtain ⟨v', q, a⟩ := h.get (List.getElem?_eq_getElem hi)
  rw [e] at q; cases q
  exact ⟨_, List.getElem?_eq_getElem hi, a⟩
theorem AtAll.app {vs ws : List V} {ds es : List PyData} : AtAll K G vs ds → AtAll K G ws es → AtAll K G (vs ++ ws) (ds ++ es) := by
  induction ds generalizing vs with
  | nil => intro h q; cases h; exact q
  | cons d ds ih => intro h q; cases h with | cons h1 h2 => exact .cons h1 (ih h2 q)
theorem AtAll.one {v : V} {d : PyData} (h : At K G v d) : AtAll K G [v] [d] := .cons h .nil
theorem AtAll.snoc {vs : List V} {ds : List PyData} {v : V} {d : PyData} (h : AtAll K G vs ds) (q : At K G v d) : AtAll K G (vs ++ [v]) (ds ++ [d]) := h.app (.one q)
theorem AtAll.drop {vs : List V} {ds : List PyData} : ∀ (n : Nat), AtAll K G vs ds → AtAll K G (vs.drop n) (ds.drop n) := by
  intro n
  induction n generalizing vs ds with
  | zero => intro h; exact h
  | succ n ih => intro h; cases h with | nil => exact .nil | cons _ h2 => exact ih h2
theorem AtAll.take {vs : List V} {ds : List PyData} : ∀ (n : Nat), AtAll K G vs ds → AtAll K G (vs.take n) (ds.take n) := by
  intro n
  induction n generalizing vs ds with
  | zero => intro h; exact .nil
  | succ n ih => intro h; cases h with | nil => exact .nil | cons h1 h2 => exact .cons h1 (ih h2)
theorem AtAll.set {vs : List V} {ds : List PyData} {v : V} {d : PyData} (q : At K G v d) : ∀ (n : Nat), AtAll K G vs ds → AtAll K G (vs.set n v) (ds.set n d) := by
  intro n
  induction n generalizing vs ds with
  | zero => intro h; cases h with | nil => exact .nil | cons h1 h2 => exact .cons q h2
  | succ n ih => intro h; cases h with | nil => exact .nil | cons h1 h2 => exact .cons h1 (ih h2)
theorem AtAll.erase {vs : List V} {ds : List PyData} : ∀ (n : Nat), AtAll K G vs ds → AtAll K G (vs.eraseIdx n) (ds.eraseIdx n) := by
  intro n
  induction n generalizing vs ds with
  | zero => intro h; cases h with | nil => exact .nil | cons h1 h2 => exact h2
  | succ n ih => intro h; cases h with | nil => exact .nil | cons h1 h2 => exact .cons h1 (ih h2)
theorem AtAll.ints {ns : List Int} {vs : List V} (h : AtAll K G vs (ns.map .int)) : vs = ns.map V.int := by
  induction ns generalizing vs with
  | nil => cases h; rfl
  | cons n ns ih => cases h with | cons h1 h2 => cases h1; rw [ih h2]; rfl
theorem AtAll.bools {bs : List Bool} {vs : List V} (h : AtAll K G vs (bs.map .bool)) : vs = bs.map V.bl := by
  induction bs generalizing vs with
  | nil => cases h; rfl
  | cons n ns ih => cases h with | cons h1 h2 => cases h1; rw [ih h2]; rfl
theorem AtAll.strs {xs : List Str} {vs : List V} (h : AtAll K G vs (xs.map .str)) : vs = xs.map V.str := by
  induction xs generalizing vs with
  | nil => cases h; rfl
  | cons n ns ih => cases h with | cons h1 h2 => cases h1; rw [ih h2]; rfl
theorem atAll_ints (ns : List Int) : AtAll K G (ns.map V.int) (ns.map .int) := by
  induction ns with
  | nil => exact .nil
  | cons n ns ih => exact .cons (.int n) ih
theorem atAll_strs (xs : List Str) : AtAll K G (xs.map V.str) (xs.map .str) := by
  induction xs with
  | nil => exact .nil
  | cons n ns ih => exact .cons (.str n) ih
theorem At.scrI {ns : List Int} {v : V} (h : At K G v (PD.scr ns)) : ∃ a, v = .ref a ∧ SqL K G a (ns.map V.int) := by
  cases h with
  | scr h1 h2 => have e := h2.ints; subst e; exact ⟨_, rfl, h1⟩
theorem At.ofScr {ns : List Int} {a : Addr} (h : SqL K G a (ns.map V.int)) : At K G (.ref a) (PD.scr ns) := .scr h (atAll_ints ns)
/-- a datum that leans on no heap -/
def scal : PyData → Bool
  | .none => true
  | .bool _ => true
  | .int _ => true
  | .str _ => true
  | _ => false
theorem At.scal {d : PyData} {v : V} (s : scal d = true) (h : At K G v d) : At K G' v d := by
  cases h with
  | non => exact .non
  | bl b => exact .bl b
  | int i => exact .int i
  | str x => exact .str x
  | _ => simp [PD.scal] at s
end

/-! ### what is known of the slots -/
inductive Sl
  /-- nothing -/
  | no
  /-- it holds this datum -/
  | da (d : PyData)
  /-- it holds a list of its own with these items -/
  | ow (ds : List PyData)
  /-- it holds a dict of its own with these keys -/
  | od (ks : List Int)
  /-- it holds that very value, which is that datum, or of which nothing is said here -/
  | fx (v : V) (o : Option PyData)
/-- it holds that very object -/
abbrev Sl.rf (a : Addr) : Sl := .fx (.ref a) none
abbrev Env := List Sl
structure Sat (K : PySem.W.Frag) (H0 G H : Hp) (σ : St) (Γ : Env) : Prop where
  len : σ.length = Γ.length
  da : ∀ (i : Nat) (d : PyData), Γ[i]? = some (.da d) → ∃ v, σ[i]? = some (some v) ∧ At K G v d
  ow : ∀ (i : Nat) (ds : List PyData), Γ[i]? = some (.ow ds) → ∃ p vs, σ[i]? = some (some (.ref p)) ∧ H p = some (.lst vs) ∧ G p = none ∧ H0 p = none ∧ AtAll K G vs ds
  ne : ∀ (i j : Nat) (di dj : List PyData) (p : Addr), Γ[i]? = some (.ow di) → Γ[j]? = some (.ow dj) → σ[i]? = some (some (.ref p)) → σ[j]? = some (some (.ref p)) → i = j
  od : ∀ (i : Nat) (ks : List Int), Γ[i]? = some (.od ks) → ∃ p kvs, σ[i]? = some (some (.ref p)) ∧ H p = some (.dK kvs) ∧ G p = none ∧ H0 p = none ∧ kvs.length ≤ ks.length ∧ ∀ k : Int, (valV kvs (Sum.inl k)).isSome = decide (k ∈ ks)
  nd : ∀ (i j : Nat) (di dj : List Int) (p : Addr), Γ[i]? = some (.od di) → Γ[j]? = some (.od dj) → σ[i]? = some (some (.ref p)) → σ[j]? = some (some (.ref p)) → i = j
  fx : ∀ (i : Nat) (v : V) (o : Option PyData), Γ[i]? = some (.fx v o) → σ[i]? = some (some v) ∧ ∀ d, o = some d → At K G v d
section
variable {K : PySem.W.Frag} {H0 G G' H H' : Hp} {σ : St} {Γ : Env}
theorem Sat.rf (s : Sat K H0 G H σ Γ) (i : Nat) (a : Addr) (q : Γ[i]? = some (.rf a)) : σ[i]? = some (some (.ref a)) := (s.fx i _ _ q).1
theorem Sat.ext (s : Sat K H0 G H σ Γ) (e : Ext G H G' H') : Sat K H0 G' H' σ Γ := by
  refine ⟨s.len, fun i d q => ?_, fun i ds q => ?_, s.ne, fun i ks q => ?_, s.nd, fun i v o q => ⟨(s.fx i v o q).1, fun d z => ((s.fx i v o q).2 d z).up e.gg⟩⟩
  · obtain ⟨v, h1, h2⟩ := s.da i d q
    exact ⟨v, h1, h2.up e.gg⟩
  · obtain ⟨p, vs, h1, h2, h3, h4, h5⟩ := s.ow i ds q
    exact ⟨p, vs, h1, e.hh _ _ h2, e.fr p h3 (by rw [h2]; exact fun z => nomatch z), h4, h5.up e.gg⟩
  · obtain ⟨p, vs, h1, h2, h3, h4, h5⟩ := s.od i ks q
    exact ⟨p, vs, h1, e.hh _ _ h2, e.fr p h3 (by rw [h2]; exact fun z => nomatch z), h4, h5⟩
/-- what a stored slot leaves of the references -/
theorem Sat.rfSet (s : Sat K H0 G H σ Γ) {i : Nat} {o : Option V} {x : Sl} (hx : ∀ v t, x ≠ .fx v t) (j : Nat) (v : V) (t : Option PyData) (q : (Γ.set i x)[j]? = some (.fx v t)) : (σ.set i o)[j]? = some (some v) ∧ ∀ d, t = some d → At K G v d := by
  by_cases z : i = j
  · subst z
    have hi : i < Γ.length := by have := (List.getElem?_eq_some_iff.mp q).1; simpa using this
    rw [List.getElem?_set_self hi] at q
    exact absurd (Option.some.inj q) (hx v t)
  · rw [List.getElem?_set_ne z] at q ⊢; exact s.fx j v t q
theorem Sat.rfSet' (s : Sat K H0 G H σ Γ) {i : Nat} {x : Sl} (hx : ∀ v t, x ≠ .fx v t) (j : Nat) (v : V) (t : Option PyData) (q : (Γ.set i x)[j]? = some (.fx v t)) : σ[j]? = some (some v) ∧ ∀ d, t = some d → At K G v d := by
  by_cases z : i = j
  · subst z
    have hi : i < Γ.length := by have := (List.getElem?_eq_some_iff.mp q).1; simpa using this
    rw [List.getElem?_set_self hi] at q
    exact absurd (Option.some.inj q) (hx v t)
  · rw [List.getElem?_set_ne z] at q; exact s.fx j v t q
/-- what a stored slot leaves of the dicts -/
theorem Sat.odSet (s : Sat K H0 G H σ Γ) {i : Nat} {o : Option V} {x : Sl} (hx : ∀ ks, x ≠ .od ks) : (∀ (j : Nat) (ks : List Int), (Γ.set i x)[j]? = some (.od ks) → ∃ p kvs, (σ.set i o)[j]? = some (some (.ref p)) ∧ H p = some (.dK kvs) ∧ G p = none ∧ H0 p = none ∧ kvs.length ≤ ks.length ∧ ∀ k : Int, (valV kvs (Sum.inl k)).isSome = decide (k ∈ ks)) ∧
    (∀ (j k : Nat) (di dj : List Int) (p : Addr), (Γ.set i x)[j]? = some (.od di) → (Γ.set i x)[k]? = some (.od dj) → (σ.set i o)[j]? = some (some (.ref p)) → (σ.set i o)[k]? = some (some (.ref p)) → j = k) := by
  have f : ∀ {j : Nat} {ks : List Int}, (Γ.set i x)[j]? = some (.od ks) → i ≠ j ∧ Γ[j]? = some (.od ks) := fun {j ks} q => by
    by_cases z : i = j
    · subst z
      have hi : i < Γ.length := by have := (List.getElem?_eq_some_iff.mp q).1; simpa using this
      rw [List.getElem?_set_self hi] at q
      exact absurd (Option.some.inj q) (hx ks)
    · rw [List.getElem?_set_ne z] at q; exact ⟨z, q⟩
  refine ⟨fun j ks q => ?_, fun j k di dj p q1 q2 q3 q4 => ?_⟩
  · obtain ⟨n, q'⟩ := f q
    rw [List.getElem?_set_ne n]
    exact s.od j ks q'
  · obtain ⟨n1, r1⟩ := f q1
    obtain ⟨n2, r2⟩ := f q2
    rw [List.getElem?_set_ne n1] at q3
    rw [List.getElem?_set_ne n2] at q4
    exact s.nd j k di dj p r1 r2 q3 q4
/-- a slot is stored -/
theorem Sat.setD (s : Sat K H0 G H σ Γ) {i : Nat} {v : V} {d : PyData} (h : At K G v d) : Sat K H0 G H (σ.set i (some v)) (Γ.set i (.da d)) := by
  have od := s.odSet (i := i) (o := some v) (x := .da d) (fun _ z => nomatch z)
  refine ⟨by simp [s.len], fun j e q => ?_, fun j ds q => ?_, fun j k dj dk p q1 q2 q3 q4 => ?_, od.1, od.2, s.rfSet (fun _ _ z => nomatch z)⟩
  · by_cases z : i = j
    · subst z
      have hi : i < Γ.length := by have := (List.getElem?_eq_some_iff.mp q).1; simpa using this
      rw [List.getElem?_set_self hi] at q
      cases q
      exact ⟨v, by rw [List.getElem?_set_self (by rw [s.len]; exact hi)], h⟩
    · rw [List.getElem?_set_ne z] at q ⊢
      exact s.da j e q
  · by_cases z : i = j
    · subst z
      have hi : i < Γ.length := by have := (List.getElem?_eq_some_iff.mp q).1; simpa using this
      rw [List.getElem?_set_self hi] at q
      cases q
    · rw [List.getElem?_set_ne z] at q ⊢
      exact s.ow j ds q
  · have n1 : i ≠ j := fun z => by
      subst z
      have hi : i < Γ.length := by have := (List.getElem?_eq_some_iff.mp q1).1; simpa using this
      rw [List.getElem?_set_self hi] at q1; cases q1
    have n2 : i ≠ k := fun z => by
      subst z
      have hi : i < Γ.length := by have := (List.getElem?_eq_some_iff.mp q2).1; simpa using this
      rw [List.getElem?_set_self hi] at q2; cases q2
    rw [List.getElem?_set_ne n1] at q1 q3
    rw [List.getElem?_set_ne n2] at q2 q4
    exact s.ne j k dj dk p q1 q2 q3 q4
/-- a slot is stored that nothing is said of -/
theorem Sat.setN (s : Sat K H0 G H σ Γ) {i : Nat} {o : Option V} : Sat K H0 G H (σ.set i o) (Γ.set i .no) := by
  have od := s.odSet (i := i) (o := o) (x := .no) (fun _ z => nomatch z)
  refine ⟨by simp [s.len], fun j e q => ?_, fun j ds q => ?_, fun j k dj dk p q1 q2 q3 q4 => ?_, od.1, od.2, s.rfSet (fun _ _ z => nomatch z)⟩
  · by_cases z : i = j
    · subst z
      have hi : i < Γ.length := by have := (List.getElem?_eq_some_iff.mp q).1; simpa using this
      rw [List.getElem?_set_self hi] at q
      cases q
    · rw [List.getElem?_set_ne z] at q ⊢
      exact s.da j e q
  · by_cases z : i = j
    · subst z
      have hi : i < Γ.length := by have := (List.getElem?_eq_some_iff.mp q).1; simpa using this
      rw [List.getElem?_set_self hi] at q
      cases q
    · rw [List.getElem?_set_ne z] at q ⊢
      exact s.ow j ds q
  · have n1 : i ≠ j := fun z => by
      subst z
      have hi : i < Γ.length := by have := (List.getElem?_eq_some_iff.mp q1).1; simpa using this
      rw [List.getElem?_set_self hi] at q1; cases q1
    have n2 : i ≠ k := fun z => by
      subst z
      have hi : i < Γ.length := by have := (List.getElem?_eq_some_iff.mp q2).1; simpa using this
      rw [List.getElem?_set_self hi] at q2; cases q2
    rw [List.getElem?_set_ne n1] at q1 q3
    rw [List.getElem?_set_ne n2] at q2 q4
    exact s.ne j k dj dk p q1 q2 q3 q4
/-- a slot comes to hold a list of its own, of which no slot knew -/
theorem Sat.setO (s : Sat K H0 G H σ Γ) {i : Nat} {p : Addr} {vs : List V} {ds : List PyData} (hp : H p = some (.lst vs)) (gp : G p = none) (h0 : H0 p = none) (ha : AtAll K G vs ds)
    (new : ∀ (j : Nat) (dj : List PyData), Γ[j]? = some (.ow dj) → σ[j]? ≠ some (some (.ref p))) : Sat K H0 G H (σ.set i (some (.ref p))) (Γ.set i (.ow ds)) := by
  have at_i : ∀ {x : Sl}, (Γ.set i (.ow ds))[i]? = some x → x = .ow ds ∧ i < Γ.length := fun {x} q => by
    have hi : i < Γ.length := by have := (List.getElem?_eq_some_iff.mp q).1; simpa using this
    rw [List.getElem?_set_self hi] at q
    exact ⟨(Option.some.inj q).symm, hi⟩
  have od := s.odSet (i := i) (o := some (.ref p)) (x := .ow ds) (fun _ z => nomatch z)
  refine ⟨by simp [s.len], fun j e q => ?_, fun j es q => ?_, fun j k dj dk b q1 q2 q3 q4 => ?_, od.1, od.2, s.rfSet (fun _ _ z => nomatch z)⟩
  · by_cases z : i = j
    · subst z; exact nomatch (at_i q).1
    · rw [List.getElem?_set_ne z] at q ⊢
      exact s.da j e q
  · by_cases z : i = j
    · subst z
      obtain ⟨e1, hi⟩ := at_i q
      cases e1
      exact ⟨p, vs, by rw [List.getElem?_set_self (by rw [s.len]; exact hi)], hp, gp, h0, ha⟩
    · rw [List.getElem?_set_ne z] at q ⊢
      exact s.ow j es q
  · by_cases z1 : i = j
    · by_cases z2 : i = k
      · rw [← z1, ← z2]
      · exfalso
        subst z1
        obtain ⟨_, hi⟩ := at_i q1
        rw [List.getElem?_set_self (by rw [s.len]; exact hi)] at q3
        cases q3
        rw [List.getElem?_set_ne z2] at q2 q4
        exact new k dk q2 q4
    · by_cases z2 : i = k
      · exfalso
        subst z2
        obtain ⟨_, hi⟩ := at_i q2
        rw [List.getElem?_set_self (by rw [s.len]; exact hi)] at q4
        cases q4
        rw [List.getElem?_set_ne z1] at q1 q3
        exact new j dj q1 q3
      · rw [List.getElem?_set_ne z1] at q1 q3
        rw [List.getElem?_set_ne z2] at q2 q4
        exact s.ne j k dj dk b q1 q2 q3 q4
/-- the list of slot i is written -/
theorem Sat.write (s : Sat K H0 G H σ Γ) {i : Nat} {p : Addr} {vs : List V} {ds es : List PyData} (hi : Γ[i]? = some (.ow ds)) (hs : σ[i]? = some (some (.ref p))) (ha : AtAll K G vs es) :
    Sat K H0 G (upd H p (.lst vs)) σ (Γ.set i (.ow es)) := by
  have hil : i < Γ.length := (List.getElem?_eq_some_iff.mp hi).1
  obtain ⟨p', vs', h1, h2, h3, h4, h5⟩ := s.ow i ds hi
  rw [hs] at h1; cases h1
  have fo : ∀ {j : Nat} {ks : List Int}, (Γ.set i (.ow es))[j]? = some (.od ks) → Γ[j]? = some (.od ks) := fun {j ks} q => by
    by_cases z : i = j
    · subst z; rw [List.getElem?_set_self hil] at q; cases q
    · rwa [List.getElem?_set_ne z] at q
  refine ⟨by simp [s.len], fun j e q => ?_, fun j e q => ?_, fun j k dj dk b q1 q2 q3 q4 => ?_, fun j ks q => ?_, fun j k di dj b q1 q2 => s.nd j k di dj b (fo q1) (fo q2), s.rfSet' (fun _ _ z => nomatch z)⟩
  · by_cases z : i = j
    · subst z; rw [List.getElem?_set_self hil] at q; cases q
    · rw [List.getElem?_set_ne z] at q
      exact s.da j e q
  · by_cases z : i = j
    · subst z; rw [List.getElem?_set_self hil] at q; cases q
      exact ⟨p, vs, hs, upd_same, h3, h4, ha⟩
    · rw [List.getElem?_set_ne z] at q
      obtain ⟨b, ws, k1, k2, k3, k4, k5⟩ := s.ow j e q
      have nb : b ≠ p := fun y => by subst y; exact z (s.ne i j ds e b hi q hs k1)
      exact ⟨b, ws, k1, by rw [upd_ne nb]; exact k2, k3, k4, k5⟩
  · have f : ∀ {m : Nat} {dm : List PyData}, (Γ.set i (.ow es))[m]? = some (.ow dm) → ∃ dm', Γ[m]? = some (.ow dm') := fun {m dm} q => by
      by_cases z : i = m
      · subst z; exact ⟨ds, hi⟩
      · rw [List.getElem?_set_ne z] at q; exact ⟨dm, q⟩
    obtain ⟨d1, f1⟩ := f q1
    obtain ⟨d2, f2⟩ := f q2
    exact s.ne j k d1 d2 b f1 f2 q3 q4
  · obtain ⟨b, kvs, k1, k2, k3⟩ := s.od j ks (fo q)
    have nb : b ≠ p := fun y => by subst y; rw [h2] at k2; cases k2
    exact ⟨b, kvs, k1, by rw [upd_ne nb]; exact k2, k3⟩
/-- a slot comes to hold that very value -/
theorem Sat.setF (s : Sat K H0 G H σ Γ) {i : Nat} {v : V} {o : Option PyData} (ho : ∀ d, o = some d → At K G v d) : Sat K H0 G H (σ.set i (some v)) (Γ.set i (.fx v o)) := by
  have t := s.setN (i := i) (o := some v)
  have f : ∀ {j : Nat} {x : Sl}, (Γ.set i (.fx v o))[j]? = some x → (∀ b c, x ≠ .fx b c) → (Γ.set i .no)[j]? = some x := fun {j x} q n => by
    by_cases z : i = j
    · subst z
      have hi : i < Γ.length := by have := (List.getElem?_eq_some_iff.mp q).1; simpa using this
      rw [List.getElem?_set_self hi] at q
      exact absurd (Option.some.inj q).symm (n v o)
    · rw [List.getElem?_set_ne z] at q ⊢; exact q
  refine ⟨by simp [s.len], fun j d q => t.da j d (f q (fun _ _ z => nomatch z)), fun j ds q => t.ow j ds (f q (fun _ _ z => nomatch z)), fun j k dj dk p q1 q2 => t.ne j k dj dk p (f q1 (fun _ _ z => nomatch z)) (f q2 (fun _ _ z => nomatch z)),
    fun j ks q => t.od j ks (f q (fun _ _ z => nomatch z)), fun j k dj dk p q1 q2 => t.nd j k dj dk p (f q1 (fun _ _ z => nomatch z)) (f q2 (fun _ _ z => nomatch z)), fun j b c q => ?_⟩
  by_cases z : i = j
  · subst z
    have hi : i < Γ.length := by have := (List.getElem?_eq_some_iff.mp q).1; simpa using this
    rw [List.getElem?_set_self hi] at q
    cases q
    rw [List.getElem?_set_self (by rw [s.len]; exact hi)]
    exact ⟨rfl, ho⟩
  · rw [List.getElem?_set_ne z] at q ⊢; exact s.fx j b c q
theorem Sat.setR (s : Sat K H0 G H σ Γ) {i : Nat} {a : Addr} : Sat K H0 G H (σ.set i (some (.ref a))) (Γ.set i (.rf a)) := s.setF fun _ z => nomatch z
/-- a slot comes to hold an empty dict of its own -/
theorem Sat.setK (s : Sat K H0 G H σ Γ) {i : Nat} {p : Addr} (hp : H p = some (.dK [])) (gp : G p = none) (h0 : H0 p = none)
    (new : ∀ (j : Nat) (dj : List Int), Γ[j]? = some (.od dj) → σ[j]? ≠ some (some (.ref p))) : Sat K H0 G H (σ.set i (some (.ref p))) (Γ.set i (.od [])) := by
  have at_i : ∀ {x : Sl}, (Γ.set i (.od []))[i]? = some x → x = .od [] ∧ i < Γ.length := fun {x} q => by
    have hi : i < Γ.length := by have := (List.getElem?_eq_some_iff.mp q).1; simpa using this
    rw [List.getElem?_set_self hi] at q
    exact ⟨(Option.some.inj q).symm, hi⟩
  have off : ∀ {j : Nat} {x : Sl}, (Γ.set i (.od []))[j]? = some x → (∀ ks, x ≠ .od ks) → i ≠ j := fun {j x} q n z => by
    subst z; exact n _ (at_i q).1
  refine ⟨by simp [s.len], fun j e q => ?_, fun j es q => ?_, fun j k dj dk b q1 q2 q3 q4 => ?_, fun j ks q => ?_, fun j k dj dk b q1 q2 q3 q4 => ?_, s.rfSet (fun _ _ z => nomatch z)⟩
  · have z := off q (fun _ z => nomatch z)
    rw [List.getElem?_set_ne z] at q ⊢
    exact s.da j e q
  · have z := off q (fun _ z => nomatch z)
    rw [List.getElem?_set_ne z] at q ⊢
    exact s.ow j es q
  · have z1 := off q1 (fun _ z => nomatch z)
    have z2 := off q2 (fun _ z => nomatch z)
    rw [List.getElem?_set_ne z1] at q1 q3
    rw [List.getElem?_set_ne z2] at q2 q4
    exact s.ne j k dj dk b q1 q2 q3 q4
  · by_cases z : i = j
    · subst z
      obtain ⟨e1, hi⟩ := at_i q
      cases e1
      exact ⟨p, [], by rw [List.getElem?_set_self (by rw [s.len]; exact hi)], hp, gp, h0, Nat.le_refl _, fun k => by simp [valV]⟩
    · rw [List.getElem?_set_ne z] at q ⊢
      exact s.od j ks q
  · by_cases z1 : i = j
    · by_cases z2 : i = k
      · rw [← z1, ← z2]
      · exfalso
        subst z1
        obtain ⟨_, hi⟩ := at_i q1
        rw [List.getElem?_set_self (by rw [s.len]; exact hi)] at q3
        cases q3
        rw [List.getElem?_set_ne z2] at q2 q4
        exact new k dk q2 q4
    · by_cases z2 : i = k
      · exfalso
        subst z2
        obtain ⟨_, hi⟩ := at_i q2
        rw [List.getElem?_set_self (by rw [s.len]; exact hi)] at q4
        cases q4
        rw [List.getElem?_set_ne z1] at q1 q3
        exact new j dj q1 q3
      · rw [List.getElem?_set_ne z1] at q1 q3
        rw [List.getElem?_set_ne z2] at q2 q4
        exact s.nd j k dj dk b q1 q2 q3 q4
/-- the dict of slot i gets a key -/
theorem Sat.put (s : Sat K H0 G H σ Γ) {i : Nat} {p : Addr} {kvs : List (Key × V)} {ks : List Int} {k : Int} {v : V} (hi : Γ[i]? = some (.od ks)) (hs : σ[i]? = some (some (.ref p))) (hp : H p = some (.dK kvs)) (nk : k ∉ ks) :
    Sat K H0 G (upd H p (.dK (putK kvs (Sum.inl k) v))) σ (Γ.set i (.od (ks ++ [k]))) := by
  have hil : i < Γ.length := (List.getElem?_eq_some_iff.mp hi).1
  obtain ⟨p', kvs', h1, h2, h3, h4, h5, h6⟩ := s.od i ks hi
  rw [hs] at h1; cases h1
  rw [hp] at h2; cases h2
  have off : ∀ {j : Nat} {x : Sl}, (Γ.set i (.od (ks ++ [k])))[j]? = some x → (∀ ks, x ≠ .od ks) → Γ[j]? = some x := fun {j x} q n => by
    by_cases z : i = j
    · subst z; rw [List.getElem?_set_self hil] at q; exact absurd (Option.some.inj q).symm (n _)
    · rwa [List.getElem?_set_ne z] at q
  have fo : ∀ {j : Nat} {es : List Int}, (Γ.set i (.od (ks ++ [k])))[j]? = some (.od es) → ∃ es', Γ[j]? = some (.od es') := fun {j es} q => by
    by_cases z : i = j
    · subst z; exact ⟨ks, hi⟩
    · rw [List.getElem?_set_ne z] at q; exact ⟨es, q⟩
  have hv : valV kvs (Sum.inl k) = none := by
    have := h6 k
    rw [decide_eq_false nk] at this
    exact Option.not_isSome_iff_eq_none.mp (by rw [this]; exact Bool.false_ne_true)
  refine ⟨by simp [s.len], fun j e q => ?_, fun j e q => ?_, fun j m dj dk b q1 q2 => s.ne j m dj dk b (off q1 (fun _ z => nomatch z)) (off q2 (fun _ z => nomatch z)), fun j es q => ?_, fun j m di dj b q1 q2 q3 q4 => ?_, s.rfSet' (fun _ _ z => nomatch z)⟩
  · exact s.da j e (off q (fun _ z => nomatch z))
  · obtain ⟨b, ws, k1, k2, k3⟩ := s.ow j e (off q (fun _ z => nomatch z))
    have nb : b ≠ p := fun y => by subst y; rw [hp] at k2; cases k2
    exact ⟨b, ws, k1, by rw [upd_ne nb]; exact k2, k3⟩
  · by_cases z : i = j
    · subst z; rw [List.getElem?_set_self hil] at q; cases q
      refine ⟨p, _, hs, upd_same, h3, h4, ?_, fun m => ?_⟩
      · rw [putK_new v hv, List.length_append, List.length_append]; simp; exact h5
      · rw [valV_put]
        by_cases y : (Sum.inl m : Key) = Sum.inl k
        · rw [if_pos y]; cases y; simp
        · rw [if_neg y, h6 m]
          have y' : ¬ m = k := fun e => y (by rw [e])
          simp [y']
    · rw [List.getElem?_set_ne z] at q
      obtain ⟨b, ws, k1, k2, k3⟩ := s.od j es q
      have nb : b ≠ p := fun y => by subst y; exact z (s.nd i j ks es b hi q hs k1)
      exact ⟨b, ws, k1, by rw [upd_ne nb]; exact k2, k3⟩
  · obtain ⟨e1, r1⟩ := fo q1
    obtain ⟨e2, r2⟩ := fo q2
    exact s.nd j m e1 e2 b r1 r2 q3 q4
/-- forgetting -/
inductive Wk : Sl → Sl → Prop
  | no (s : Sl) : Wk s .no
  | same (s : Sl) : Wk s s
theorem Sat.weak {Γ' : Env} (s : Sat K H0 G H σ Γ) (hl : Γ'.length = Γ.length) (w : ∀ (i : Nat) (x y : Sl), Γ[i]? = some x → Γ'[i]? = some y → Wk x y) : Sat K H0 G H σ Γ' := by
  have up : ∀ {i : Nat} {y : Sl}, Γ'[i]? = some y → y ≠ .no → Γ[i]? = some y := fun {i y} q n => by
    have hi : i < Γ.length := by rw [← hl]; exact (List.getElem?_eq_some_iff.mp q).1
    have e := List.getElem?_eq_getElem hi
    have r := w i _ y e q
    cases r with
    | no => exact absurd rfl n
    | same => exact e
  exact ⟨by rw [hl]; exact s.len, fun i d q => s.da i d (up q (fun z => nomatch z)), fun i ds q => s.ow i ds (up q (fun z => nomatch z)), fun i j di dj p q1 q2 => s.ne i j di dj p (up q1 (fun z => nomatch z)) (up q2 (fun z => nomatch z)),
    fun i ks q => s.od i ks (up q (fun z => nomatch z)), fun i j di dj p q1 q2 => s.nd i j di dj p (up q1 (fun z => nomatch z)) (up q2 (fun z => nomatch z)), fun i v o q => s.fx i v o (up q (fun z => nomatch z))⟩
end
end PD

set_option Elab.async false
set_option linter.all false
set_option maxRecDepth 100000
set_option maxHeartbeats 1000000
/-! Expressions over data. -/
namespace PD
open PySem L2
section
variable (K : PySem.W.Frag)
def EvD (te : TE) (Γ : Env) (d : PyData) : Prop := ∀ (H0 G H : Hp) (σ : St), Sat K H0 G H σ Γ → Same G H → ∀ Q : VK, (∀ v G' H', Ext G H G' H' → At K G' v d → Q v H') → te σ H Q
/-- a new list -/
def EvO (te : TE) (Γ : Env) (ds : List PyData) : Prop := ∀ (H0 G H : Hp) (σ : St), Sat K H0 G H σ Γ → Same G H → ∀ Q : VK,
  (∀ p vs G' H', Ext G H G' H' → H p = none → G' p = none → H' p = some (.lst vs) → AtAll K G' vs ds → Q (.ref p) H') → te σ H Q
def EvT (tt : TT) (Γ : Env) (b : Bool) : Prop := ∀ (H0 G H : Hp) (σ : St), Sat K H0 G H σ Γ → Same G H → ∀ Q : Bool → Hp → Prop, (∀ G' H', Ext G H G' H' → Q b H') → tt σ H Q
def EvA (ta : TA) (Γ : Env) (ds : List PyData) : Prop := ∀ (H0 G H : Hp) (σ : St), Sat K H0 G H σ Γ → Same G H → ∀ Q : List V → Hp → Prop, (∀ vs G' H', Ext G H G' H' → AtAll K G' vs ds → Q vs H') → ta σ H Q
def EvP (to : TO) (Γ : Env) (o : Option Int) : Prop := ∀ (H0 G H : Hp) (σ : St), Sat K H0 G H σ Γ → Same G H → ∀ Q : Option Int → Hp → Prop, (∀ G' H', Ext G H G' H' → Q o H') → to σ H Q
/-- it raises an own error of the class at C -/
def EvX (E : XK) (te : TE) (Γ : Env) (C : Addr) : Prop := ∀ (H0 G H : Hp) (σ : St), Sat K H0 G H σ Γ → Same G H → (∀ H', Same H H' → E (.ref C) none H') → ∀ Q : VK, te σ H Q
def ExA (E : XK) (ta : TA) (Γ : Env) (C : Addr) : Prop := ∀ (H0 G H : Hp) (σ : St), Sat K H0 G H σ Γ → Same G H → (∀ H', Same H H' → E (.ref C) none H') → ∀ Q : List V → Hp → Prop, ta σ H Q
def ExT (E : XK) (tt : TT) (Γ : Env) (C : Addr) : Prop := ∀ (H0 G H : Hp) (σ : St), Sat K H0 G H σ Γ → Same G H → (∀ H', Same H H' → E (.ref C) none H') → ∀ Q : Bool → Hp → Prop, tt σ H Q
end
section
variable {K : PySem.W.Frag} {Γ : Env} {ta tb tc te : TE} {t u : TT}
theorem EvO.toD {ds : List PyData} (h : EvO K te Γ ds) : EvD K te Γ (.list ds) := fun H0 G H σ s gh Q q => h H0 G H σ s gh Q fun p vs G' H' e hp gp hp' ha => by
  have e2 : Ext G H (upd G' p (.lst vs)) H' := by
    refine ⟨e.hh, e.gg.trans (same_new gp), fun b x z => ?_, fun a z n => ?_⟩
    · by_cases y : b = p
      · subst y; rw [upd_same] at z; cases z; exact hp'
      · rw [upd_ne y] at z; exact e.gh b x z
    · have y : a ≠ p := fun y => n (by rw [y]; exact hp)
      rw [upd_ne y]; exact e.fr a z n
  exact q _ _ _ e2 (.lst upd_same (ha.up (same_new gp)))
theorem evd_eq {d e : PyData} (h : EvD K te Γ d) (z : d = e) : EvD K te Γ e := z ▸ h
theorem evo_eq {d e : List PyData} (h : EvO K te Γ d) (z : d = e) : EvO K te Γ e := z ▸ h
theorem evt_eq {a b : Bool} (h : EvT K t Γ a) (z : a = b) : EvT K t Γ b := z ▸ h

/-! ### names, constants -/
theorem ev_var {i : Nat} {d : PyData} (h : Γ[i]? = some (.da d)) : EvD K (tVar i) Γ d := fun H0 G H σ s gh Q q => by
  obtain ⟨v, h1, h2⟩ := s.da i d h
  exact ⟨v, h1, q v G H (Ext.refl gh) h2⟩
theorem ev_int {i : Int} : EvD K (tC (.int i)) Γ (.int i) := fun H0 G H σ s gh Q q => q _ G H (Ext.refl gh) (.int i)
theorem ev_bl {b : Bool} : EvD K (tC (.bl b)) Γ (.bool b) := fun H0 G H σ s gh Q q => q _ G H (Ext.refl gh) (.bl b)
theorem ev_non : EvD K (tC .non) Γ .none := fun H0 G H σ s gh Q q => q _ G H (Ext.refl gh) .non
theorem ev_str {x : Str} : EvD K (tC (.str x)) Γ (.str x) := fun H0 G H σ s gh Q q => q _ G H (Ext.refl gh) (.str x)

/-! ### two operands -/
/-- what a two-place operation gives on data -/
def RvD (K : PySem.W.Frag) (r : R2) (d e f : PyData) : Prop := ∀ (G H : Hp) (x y : V), Same G H → At K G x d → At K G y e → ∀ Q : VK, (∀ v G' H', Ext G H G' H' → At K G' v f → Q v H') → r x y H Q
theorem ev_op {r : R2} {d e f : PyData} (ha : EvD K ta Γ d) (hb : EvD K tb Γ e) (hr : RvD K r d e f) : EvD K (tOp r ta tb) Γ f := fun H0 G H σ s gh Q q =>
  ha H0 G H σ s gh _ fun x G1 H1 e1 a1 => hb H0 G1 H1 σ (s.ext e1) e1.gh _ fun y G2 H2 e2 a2 => hr G2 H2 x y e2.gh (a1.up e2.gg) a2 Q fun v G3 H3 e3 a3 => q v G3 H3 ((e1.trans e2).trans e3) a3
theorem RvD.inl {r r' : R2} {d e f : PyData} (h : RvD K r d e f) : RvD K (fun x y H Q => r x y H Q ∨ r' x y H Q) d e f := fun G H x y gh a b Q q => .inl (h G H x y gh a b Q q)
theorem RvD.inr {r r' : R2} {d e f : PyData} (h : RvD K r' d e f) : RvD K (fun x y H Q => r x y H Q ∨ r' x y H Q) d e f := fun G H x y gh a b Q q => .inr (h G H x y gh a b Q q)
theorem rv_I0i {g : Int → Int → Int} {i j : Int} : RvD K (rI0 fun i j => .int (g i j)) (.int i) (.int j) (.int (g i j)) := fun G H x y gh a b Q q => by
  cases a; cases b
  exact ⟨i, j, rfl, rfl, q _ G H (Ext.refl gh) (.int _)⟩
theorem rv_I0b {g : Int → Int → Bool} {i j : Int} : RvD K (rI0 fun i j => .bl (g i j)) (.int i) (.int j) (.bool (g i j)) := fun G H x y gh a b Q q => by
  cases a; cases b
  exact ⟨i, j, rfl, rfl, q _ G H (Ext.refl gh) (.bl _)⟩
theorem rv_Ii {C : Int → Int → Prop} {g : Int → Int → Int} {i j : Int} (hc : C i j) : RvD K (rI C fun i j => .int (g i j)) (.int i) (.int j) (.int (g i j)) := fun G H x y gh a b Q q => by
  cases a; cases b
  exact ⟨i, j, rfl, rfl, hc, q _ G H (Ext.refl gh) (.int _)⟩
abbrev rAddI : R2 := rI0 fun i j => .int (i + j)
abbrev rAddS : R2 := fun x y H Q => ∃ i j, x = .str i ∧ y = .str j ∧ i.length + j.length ≤ sizeLine ∧ Q (.str (i ++ j)) H
/-- a + b, whatever they are -/
abbrev rAdd3 : R2 := fun x y H Q => rAddI x y H Q ∨ (fun x y H Q => rAddS x y H Q ∨ rCat x y H Q) x y H Q
abbrev rSubI : R2 := rI0 fun i j => .int (i - j)
abbrev rMulI : R2 := rI CMul fun i j => .int (i * j)
abbrev rMul2 : R2 := fun x y H Q => rMulI x y H Q ∨ rRep x y H Q
abbrev rModI : R2 := rI (fun _ j => 0 < j) fun i j => .int (i % j)
abbrev rDivI : R2 := rI CDiv fun i j => .int (i / j)
abbrev rPowI : R2 := rI CPow fun i j => .int (i ^ j.toNat)
theorem ev_add {i j : Int} (ha : EvD K ta Γ (.int i)) (hb : EvD K tb Γ (.int j)) : EvD K (tOp rAdd3 ta tb) Γ (.int (i + j)) := ev_op ha hb rv_I0i.inl
theorem ev_sub {i j : Int} (ha : EvD K ta Γ (.int i)) (hb : EvD K tb Γ (.int j)) : EvD K (tOp rSubI ta tb) Γ (.int (i - j)) := ev_op ha hb rv_I0i
theorem ev_mul {i j : Int} (ha : EvD K ta Γ (.int i)) (hb : EvD K tb Γ (.int j)) (hc : CMul i j) : EvD K (tOp rMul2 ta tb) Γ (.int (i * j)) := ev_op ha hb (rv_Ii hc).inl
theorem ev_mod {i j : Int} (ha : EvD K ta Γ (.int i)) (hb : EvD K tb Γ (.int j)) (hc : 0 < j) : EvD K (tOp rModI ta tb) Γ (.int (i % j)) := ev_op ha hb (rv_Ii hc)
theorem ev_div {i j : Int} (ha : EvD K ta Γ (.int i)) (hb : EvD K tb Γ (.int j)) (hc : CDiv i j) : EvD K (tOp rDivI ta tb) Γ (.int (i / j)) := ev_op ha hb (rv_Ii hc)
theorem ev_pow {i j : Int} (ha : EvD K ta Γ (.int i)) (hb : EvD K tb Γ (.int j)) (hc : CPow i j) : EvD K (tOp rPowI ta tb) Γ (.int (i ^ j.toNat)) := ev_op ha hb (rv_Ii hc)
theorem ev_addS {x y : Str} (ha : EvD K ta Γ (.str x)) (hb : EvD K tb Γ (.str y)) (hz : x.length + y.length ≤ sizeLine) : EvD K (tOp rAdd3 ta tb) Γ (.str (x ++ y)) :=
  ev_op ha hb (RvD.inr (RvD.inl fun G H v w gh a b Q q => by
    cases a; cases b
    exact ⟨x, y, rfl, rfl, hz, q _ G H (Ext.refl gh) (.str _)⟩))
/-- a two-place operation that gives a new list -/
def RvO (K : PySem.W.Frag) (r : R2) (d e : PyData) (fs : List PyData) : Prop := ∀ (G H : Hp) (x y : V), Same G H → At K G x d → At K G y e → ∀ Q : VK,
  (∀ p vs G' H', Ext G H G' H' → H p = none → G' p = none → H' p = some (.lst vs) → AtAll K G' vs fs → Q (.ref p) H') → r x y H Q
theorem ev_opO {r : R2} {d e : PyData} {fs : List PyData} (ha : EvD K ta Γ d) (hb : EvD K tb Γ e) (hr : RvO K r d e fs) : EvO K (tOp r ta tb) Γ fs := fun H0 G H σ s gh Q q =>
  ha H0 G H σ s gh _ fun x G1 H1 e1 a1 => hb H0 G1 H1 σ (s.ext e1) e1.gh _ fun y G2 H2 e2 a2 => hr G2 H2 x y e2.gh (a1.up e2.gg) a2 Q fun p vs G3 H3 e3 hp gp h3 a3 =>
    q p vs G3 H3 ((e1.trans e2).trans e3) ((e1.trans e2).hh.free hp) gp h3 a3
theorem ev_cat {ds es : List PyData} (ha : EvD K ta Γ (.list ds)) (hb : EvD K tb Γ (.list es)) (hz : ds.length + es.length ≤ 100000) : EvO K (tOp rAdd3 ta tb) Γ (ds ++ es) :=
  ev_opO ha hb fun G H x y gh a b Q q => by
    cases a with
    | lst a1 a2 =>
      cases b with
      | lst b1 b2 =>
        refine .inr (.inr ⟨_, _, _, _, rfl, rfl, gh _ _ a1, gh _ _ b1, ?_, fun p hp => ?_⟩)
        · rw [a2.length, b2.length]; exact Nat.le_trans hz (by decide)
        · exact q p _ G _ (Ext.own gh hp) hp (gh.free hp) upd_same (a2.app b2)
theorem rep_flat {α : Type} (x : α) : ∀ n : Nat, (List.replicate n [x]).flatten = List.replicate n x
  | 0 => rfl
  | n + 1 => by rw [List.replicate_succ, List.flatten_cons, rep_flat x n]; rfl
theorem atAll_rep {G : Hp} {v : V} {d : PyData} (hv : At K G v d) : ∀ m : Nat, AtAll K G (List.replicate m v) (List.replicate m d)
  | 0 => .nil
  | m + 1 => by rw [List.replicate_succ, List.replicate_succ]; exact .cons hv (atAll_rep hv m)
/-- [e] * n -/
theorem ev_rep {d : PyData} {n : Int} (ha : EvD K ta Γ (.list [d])) (hb : EvD K tb Γ (.int n)) (h0 : 0 ≤ n ∧ n ≤ 100000) : EvO K (tOp rMul2 ta tb) Γ (List.replicate n.toNat d) :=
  ev_opO ha hb fun G H x y gh a b Q q => by
    cases b
    cases a with
    | lst a1 a2 =>
      rename_i l xs
      have hl := a2.length
      have e1 : ∃ v, xs = [v] ∧ At K G v d := by
        cases a2 with
        | cons h1 h2 => cases h2; exact ⟨_, rfl, h1⟩
      obtain ⟨v, rfl, hv⟩ := e1
      refine .inr ⟨l, n, [v], rfl, rfl, gh _ _ a1, by omega, by omega, ?_, fun p hp => ?_⟩
      · show 1 * n.toNat ≤ sizeLine
        have : (100000 : Nat) ≤ sizeLine := by decide
        omega
      · refine q p _ G _ (Ext.own gh hp) hp (gh.free hp) upd_same ?_
        rw [rep_flat]
        exact atAll_rep hv _

/-! ### indexing -/
theorem atI_at {K : PySem.W.Frag} {G : Hp} {vs : List V} {ds : List PyData} {i : Int} {d : PyData} (ha : AtAll K G vs ds) (h : atI ds i = some d) : ∃ v, atI vs i = some v ∧ At K G v d := by
  unfold atI at h ⊢
  rw [ha.length]
  cases e : ixN ds.length i with
  | none => rw [e] at h; cases h
  | some j =>
    rw [e] at h
    exact ha.get h
theorem atI_of {α : Type} {xs : List α} {i : Int} {x : α} (h0 : 0 ≤ i) (h : xs[i.toNat]? = some x) : atI xs i = some x := by
  have e : ((i.toNat : Nat) : Int) = i := Int.toNat_of_nonneg h0
  rw [← e]
  exact atI_nat h
theorem ev_ixL {ds : List PyData} {i : Int} {d : PyData} (ha : EvD K ta Γ (.list ds)) (hb : EvD K tb Γ (.int i)) (h : atI ds i = some d) : EvD K (tOp (rIx K) ta tb) Γ d :=
  ev_op ha hb fun G H x y gh a b Q q => by
    cases b
    cases a with
    | lst a1 a2 =>
      obtain ⟨v, h1, h2⟩ := atI_at a2 h
      exact .inl ⟨_, _, i, v, rfl, rfl, SqL.of (gh _ _ a1), h1, q v G H (Ext.refl gh) h2⟩
theorem ev_ixT {ds : List PyData} {i : Int} {d : PyData} (ha : EvD K ta Γ (.tuple ds)) (hb : EvD K tb Γ (.int i)) (h : atI ds i = some d) : EvD K (tOp (rIx K) ta tb) Γ d :=
  ev_op ha hb fun G H x y gh a b Q q => by
    cases b
    cases a with
    | tup a1 a2 =>
      obtain ⟨v, h1, h2⟩ := atI_at a2 h
      exact .inr (.inl ⟨_, _, i, v, rfl, rfl, SqT.of (gh _ _ a1), h1, q v G H (Ext.refl gh) h2⟩)
theorem ev_ixS {z : Str} {i : Int} {c : Nat} (ha : EvD K ta Γ (.str z)) (hb : EvD K tb Γ (.int i)) (hz : z.length ≤ sizeLine) (h : atI z.cps.toList i = some c) : EvD K (tOp (rIx K) ta tb) Γ (.str ⟨#[c]⟩) :=
  ev_op ha hb fun G H x y gh a b Q q => by
    cases b
    cases a
    exact .inr (.inr ⟨z, i, c, rfl, rfl, hz, h, q _ G H (Ext.refl gh) (.str _)⟩)
theorem ev_ixScr {ns : List Int} {i k : Int} (ha : EvD K ta Γ (scr ns)) (hb : EvD K tb Γ (.int i)) (h : atI ns i = some k) : EvD K (tOp (rIx K) ta tb) Γ (.int k) :=
  ev_op ha hb fun G H x y gh a b Q q => by
    cases b
    obtain ⟨z, rfl, a1⟩ := a.scrI
    · refine .inl ⟨_, _, i, .int k, rfl, rfl, gh.seq a1, ?_, q _ G H (Ext.refl gh) (.int _)⟩
      unfold atI at h ⊢
      rw [List.length_map]
      cases e : ixN ns.length i with
      | none => rw [e] at h; cases h
      | some j =>
        rw [e] at h
        show (ns.map V.int)[j]? = _
        have h' : ns[j]? = some k := h
        rw [List.getElem?_map, h']; rfl
/-- over typed lists -/
theorem atI_map {α β : Type} {f : α → β} {xs : List α} {i : Int} (h0 : 0 ≤ i) (h1 : i < xs.length) (d : α) : atI (xs.map f) i = some (f (xs.getD i.toNat d)) := by
  refine atI_of h0 ?_
  have hi : i.toNat < xs.length := by omega
  rw [List.getElem?_map, List.getElem?_eq_getElem hi, List.getD_eq_getElem?_getD, List.getElem?_eq_getElem hi]
  rfl

/-! ### comparisons -/
abbrev rEq2 (K : PySem.W.Frag) : R2 := fun x y H Q => rEq x y H Q ∨ rEqD K x y H Q
abbrev rNe2 (K : PySem.W.Frag) : R2 := fun x y H Q => rNe x y H Q ∨ rNeD K x y H Q
abbrev rLtI : R2 := rI0 fun i j => .bl (decide (i < j))
abbrev rLeI : R2 := rI0 fun i j => .bl (decide (i ≤ j))
abbrev rGtI : R2 := rI0 fun i j => .bl (decide (j < i))
abbrev rGeI : R2 := rI0 fun i j => .bl (decide (j ≤ i))
theorem ev_lt {i j : Int} (ha : EvD K ta Γ (.int i)) (hb : EvD K tb Γ (.int j)) : EvD K (tOp rLtI ta tb) Γ (.bool (decide (i < j))) := ev_op ha hb rv_I0b
theorem ev_le {i j : Int} (ha : EvD K ta Γ (.int i)) (hb : EvD K tb Γ (.int j)) : EvD K (tOp rLeI ta tb) Γ (.bool (decide (i ≤ j))) := ev_op ha hb rv_I0b
theorem ev_gt {i j : Int} (ha : EvD K ta Γ (.int i)) (hb : EvD K tb Γ (.int j)) : EvD K (tOp rGtI ta tb) Γ (.bool (decide (j < i))) := ev_op ha hb rv_I0b
theorem ev_ge {i j : Int} (ha : EvD K ta Γ (.int i)) (hb : EvD K tb Γ (.int j)) : EvD K (tOp rGeI ta tb) Γ (.bool (decide (j ≤ i))) := ev_op ha hb rv_I0b
theorem rv_eqI {i j : Int} : RvD K (rEq2 K) (.int i) (.int j) (.bool (decide (i = j))) := fun G H x y gh a b Q q => by
  cases a; cases b
  refine .inl ⟨rfl, ?_⟩
  have e : decide (V.int i = V.int j) = decide (i = j) := by
    by_cases z : i = j
    · subst z; simp
    · rw [decide_eq_false z, decide_eq_false (fun y => z (V.int.inj y))]
  rw [e]
  exact q _ G H (Ext.refl gh) (.bl _)
theorem rv_neI {i j : Int} : RvD K (rNe2 K) (.int i) (.int j) (.bool (!decide (i = j))) := fun G H x y gh a b Q q => by
  cases a; cases b
  refine .inl ⟨rfl, ?_⟩
  have e : decide (V.int i = V.int j) = decide (i = j) := by
    by_cases z : i = j
    · subst z; simp
    · rw [decide_eq_false z, decide_eq_false (fun y => z (V.int.inj y))]
  rw [e]
  exact q _ G H (Ext.refl gh) (.bl _)
theorem rv_eqS {i j : Str} : RvD K (rEq2 K) (.str i) (.str j) (.bool (decide (i = j))) := fun G H x y gh a b Q q => by
  cases a; cases b
  refine .inl ⟨rfl, ?_⟩
  have e : decide (V.str i = V.str j) = decide (i = j) := by
    by_cases z : i = j
    · subst z; simp
    · rw [decide_eq_false z, decide_eq_false (fun y => z (V.str.inj y))]
  rw [e]
  exact q _ G H (Ext.refl gh) (.bl _)
theorem rv_neS {i j : Str} : RvD K (rNe2 K) (.str i) (.str j) (.bool (!decide (i = j))) := fun G H x y gh a b Q q => by
  cases a; cases b
  refine .inl ⟨rfl, ?_⟩
  have e : decide (V.str i = V.str j) = decide (i = j) := by
    by_cases z : i = j
    · subst z; simp
    · rw [decide_eq_false z, decide_eq_false (fun y => z (V.str.inj y))]
  rw [e]
  exact q _ G H (Ext.refl gh) (.bl _)
theorem dp_up {K : PySem.W.Frag} {G H : Hp} (gh : Same G H) {d : PyData} {v : V} (h : At K G v d) (s : SeqAt.shaped d = true) : Dp K H v d := At.dp d v (SeqAt.canLay_of_shaped s) (h.up gh)
theorem rv_eqD {d e : PyData} (sd : SeqAt.shaped d = true) (se : SeqAt.shaped e = true) : RvD K (rEq2 K) d e (.bool (PyData.eqv d e)) := fun G H x y gh a b Q q =>
  .inr ⟨d, e, dp_up gh a sd, dp_up gh b se, sd, se, q _ G H (Ext.refl gh) (.bl _)⟩
theorem rv_neD {d e : PyData} (sd : SeqAt.shaped d = true) (se : SeqAt.shaped e = true) : RvD K (rNe2 K) d e (.bool (!PyData.eqv d e)) := fun G H x y gh a b Q q =>
  .inr ⟨d, e, dp_up gh a sd, dp_up gh b se, sd, se, q _ G H (Ext.refl gh) (.bl _)⟩
theorem ev_eqI {i j : Int} (ha : EvD K ta Γ (.int i)) (hb : EvD K tb Γ (.int j)) : EvD K (tOp (rEq2 K) ta tb) Γ (.bool (decide (i = j))) := ev_op ha hb rv_eqI
theorem ev_neI {i j : Int} (ha : EvD K ta Γ (.int i)) (hb : EvD K tb Γ (.int j)) : EvD K (tOp (rNe2 K) ta tb) Γ (.bool (!decide (i = j))) := ev_op ha hb rv_neI
theorem ev_eqS {i j : Str} (ha : EvD K ta Γ (.str i)) (hb : EvD K tb Γ (.str j)) : EvD K (tOp (rEq2 K) ta tb) Γ (.bool (decide (i = j))) := ev_op ha hb rv_eqS
theorem ev_neS {i j : Str} (ha : EvD K ta Γ (.str i)) (hb : EvD K tb Γ (.str j)) : EvD K (tOp (rNe2 K) ta tb) Γ (.bool (!decide (i = j))) := ev_op ha hb rv_neS
theorem ev_eqD {d e : PyData} (ha : EvD K ta Γ d) (hb : EvD K tb Γ e) (sd : SeqAt.shaped d = true) (se : SeqAt.shaped e = true) : EvD K (tOp (rEq2 K) ta tb) Γ (.bool (PyData.eqv d e)) := ev_op ha hb (rv_eqD sd se)
theorem ev_neD {d e : PyData} (ha : EvD K ta Γ d) (hb : EvD K tb Γ e) (sd : SeqAt.shaped d = true) (se : SeqAt.shaped e = true) : EvD K (tOp (rNe2 K) ta tb) Γ (.bool (!PyData.eqv d e)) := ev_op ha hb (rv_neD sd se)
/-- is None -/
abbrev rIsN : R2 := fun x y H Q => y = .non ∧ Q (.bl (decide (x = .non))) H
abbrev rNotN : R2 := fun x y H Q => y = .non ∧ Q (.bl (!decide (x = .non))) H
def isNone : PyData → Bool
  | .none => true
  | _ => false
theorem At.isNone {K : PySem.W.Frag} {G : Hp} {v : V} {d : PyData} (h : At K G v d) : decide (v = .non) = isNone d := by
  cases h <;> rfl
theorem ev_isN {d : PyData} (ha : EvD K ta Γ d) : EvD K (tOp rIsN ta (tC .non)) Γ (.bool (isNone d)) := ev_op (e := .none) ha ev_non fun G H x y gh a b Q q => by
  cases b
  exact ⟨rfl, by rw [a.isNone]; exact q _ G H (Ext.refl gh) (.bl _)⟩
theorem ev_notN {d : PyData} (ha : EvD K ta Γ d) : EvD K (tOp rNotN ta (tC .non)) Γ (.bool (!isNone d)) := ev_op (e := .none) ha ev_non fun G H x y gh a b Q q => by
  cases b
  exact ⟨rfl, by rw [a.isNone]; exact q _ G H (Ext.refl gh) (.bl _)⟩
/-- a op b op c of ints -/
theorem ev_chain {r r' : R2} {d e f : PyData} {b c : Bool} (ha : EvD K ta Γ d) (hb : EvD K tb Γ e) (hc : b = true → EvD K tc Γ f) (h1 : RvD K r d e (.bool b)) (h2 : b = true → RvD K r' e f (.bool c)) : EvD K (tChain r r' ta tb tc) Γ (.bool (b && c)) :=
  fun H0 G H σ s gh Q q => ha H0 G H σ s gh _ fun x G1 H1 e1 a1 => hb H0 G1 H1 σ (s.ext e1) e1.gh _ fun y G2 H2 e2 a2 => h1 G2 H2 x y e2.gh (a1.up e2.gg) a2 _ fun z G3 H3 e3 a3 => by
    cases a3
    refine ⟨b, rfl, ?_⟩
    cases b with
    | false => exact q _ G3 H3 ((e1.trans e2).trans e3) (.bl false)
    | true =>
      have e123 := (e1.trans e2).trans e3
      exact hc rfl H0 G3 H3 σ (s.ext e123) e3.gh _ fun w G4 H4 e4 a4 => h2 rfl G4 H4 y w e4.gh (a2.up (e3.gg.trans e4.gg)) a4 Q fun v G5 H5 e5 a5 => q v G5 H5 ((e123.trans e4).trans e5) a5
theorem rv_lt {i j : Int} : RvD K rLtI (.int i) (.int j) (.bool (decide (i < j))) := rv_I0b
theorem rv_le {i j : Int} : RvD K rLeI (.int i) (.int j) (.bool (decide (i ≤ j))) := rv_I0b
/-- i <= j < k and i <= j <= k -/
theorem ev_leLt {i j k : Int} (ha : EvD K ta Γ (.int i)) (hb : EvD K tb Γ (.int j)) (hc : EvD K tc Γ (.int k)) : EvD K (tChain rLeI rLtI ta tb tc) Γ (.bool (decide (i ≤ j) && decide (j < k))) := ev_chain ha hb (fun _ => hc) rv_le (fun _ => rv_lt)
theorem ev_leLe {i j k : Int} (ha : EvD K ta Γ (.int i)) (hb : EvD K tb Γ (.int j)) (hc : EvD K tc Γ (.int k)) : EvD K (tChain rLeI rLeI ta tb tc) Γ (.bool (decide (i ≤ j) && decide (j ≤ k))) := ev_chain ha hb (fun _ => hc) rv_le (fun _ => rv_le)

/-! ### and, or, not as values; conditional expressions -/
theorem ev_and {a b : Bool} (ha : EvD K ta Γ (.bool a)) (hb : a = true → EvD K tb Γ (.bool b)) : EvD K (tAndV ta tb) Γ (.bool (a && b)) := fun H0 G H σ s gh Q q => ha H0 G H σ s gh _ fun x G1 H1 e1 a1 => by
  cases a1
  refine ⟨a, rfl, ?_⟩
  cases a with
  | true => exact hb rfl H0 G1 H1 σ (s.ext e1) e1.gh Q fun v G2 H2 e2 a2 => q v G2 H2 (e1.trans e2) a2
  | false => exact q _ G1 H1 e1 (.bl false)
theorem ev_or {a b : Bool} (ha : EvD K ta Γ (.bool a)) (hb : a = false → EvD K tb Γ (.bool b)) : EvD K (tOrV ta tb) Γ (.bool (a || b)) := fun H0 G H σ s gh Q q => ha H0 G H σ s gh _ fun x G1 H1 e1 a1 => by
  cases a1
  refine ⟨a, rfl, ?_⟩
  cases a with
  | false => exact hb rfl H0 G1 H1 σ (s.ext e1) e1.gh Q fun v G2 H2 e2 a2 => q v G2 H2 (e1.trans e2) a2
  | true => exact q _ G1 H1 e1 (.bl true)
theorem ev_not {a : Bool} (ha : EvD K ta Γ (.bool a)) : EvD K (tNotV ta) Γ (.bool (!a)) := fun H0 G H σ s gh Q q => ha H0 G H σ s gh _ fun x G1 H1 e1 a1 => by
  cases a1
  exact ⟨a, rfl, q _ G1 H1 e1 (.bl _)⟩
/-! ### tests -/
theorem et_test {b : Bool} (h : EvD K te Γ (.bool b)) : EvT K (tTest te) Γ b := fun H0 G H σ s gh Q q => h H0 G H σ s gh _ fun x G1 H1 e1 a1 => by
  cases a1; exact ⟨b, rfl, q G1 H1 e1⟩
theorem et_B {b : Bool} (h : EvD K te Γ (.bool b)) : EvT K (tB te) Γ b := fun H0 G H σ s gh Q q => h H0 G H σ s gh _ fun x G1 H1 e1 a1 => by
  cases a1; exact ⟨b, rfl, q G1 H1 e1⟩
theorem et_and {a b : Bool} (h1 : EvT K t Γ a) (h2 : a = true → EvT K u Γ b) : EvT K (tAnd t u) Γ (a && b) := fun H0 G H σ s gh Q q => h1 H0 G H σ s gh _ fun G1 H1 e1 => by
  cases a with
  | true => exact h2 rfl H0 G1 H1 σ (s.ext e1) e1.gh Q fun G2 H2 e2 => q G2 H2 (e1.trans e2)
  | false => exact q G1 H1 e1
theorem et_or {a b : Bool} (h1 : EvT K t Γ a) (h2 : a = false → EvT K u Γ b) : EvT K (tOr t u) Γ (a || b) := fun H0 G H σ s gh Q q => h1 H0 G H σ s gh _ fun G1 H1 e1 => by
  cases a with
  | false => exact h2 rfl H0 G1 H1 σ (s.ext e1) e1.gh Q fun G2 H2 e2 => q G2 H2 (e1.trans e2)
  | true => exact q G1 H1 e1
theorem et_not {a : Bool} (h1 : EvT K t Γ a) : EvT K (tNot t) Γ (!a) := fun H0 G H σ s gh Q q => h1 H0 G H σ s gh _ fun G1 H1 e1 => q G1 H1 e1
theorem et_yes : EvT K tYes Γ true := fun H0 G H σ s gh Q q => q G H (Ext.refl gh)
theorem ev_if {b : Bool} {d : PyData} (h : EvT K t Γ b) (h1 : b = true → EvD K ta Γ d) (h2 : b = false → EvD K tb Γ d) : EvD K (tIf t ta tb) Γ d := fun H0 G H σ s gh Q q => h H0 G H σ s gh _ fun G1 H1 e1 => by
  cases b with
  | true => exact h1 rfl H0 G1 H1 σ (s.ext e1) e1.gh Q fun v G2 H2 e2 a2 => q v G2 H2 (e1.trans e2) a2
  | false => exact h2 rfl H0 G1 H1 σ (s.ext e1) e1.gh Q fun v G2 H2 e2 a2 => q v G2 H2 (e1.trans e2) a2

/-! ### arguments, displays -/
theorem ea_nil : EvA K tNil Γ [] := fun H0 G H σ s gh Q q => q [] G H (Ext.refl gh) .nil
theorem ea_cons {tr : TA} {d : PyData} {ds : List PyData} (h : EvD K ta Γ d) (hr : EvA K tr Γ ds) : EvA K (tCons ta tr) Γ (d :: ds) := fun H0 G H σ s gh Q q =>
  h H0 G H σ s gh _ fun x G1 H1 e1 a1 => hr H0 G1 H1 σ (s.ext e1) e1.gh _ fun xs G2 H2 e2 a2 => q _ G2 H2 (e1.trans e2) (.cons (a1.up e2.gg) a2)
theorem eo_lst {ta : TA} {ds : List PyData} (h : EvA K ta Γ ds) (hl : ds.length ≤ 100000) : EvO K (tLst ta) Γ ds := fun H0 G H σ s gh Q q =>
  h H0 G H σ s gh _ fun vs G1 H1 e1 a1 => ⟨by rw [a1.length]; exact Nat.le_trans hl (by decide), fun p hp => q p vs G1 _ (e1.trans (Ext.own e1.gh hp)) (e1.hh.free hp) (e1.gh.free hp) upd_same a1⟩
theorem ev_tup {ta : TA} {ds : List PyData} (h : EvA K ta Γ ds) (hl : ds.length ≤ 100000) : EvD K (tTup ta) Γ (.tuple ds) := fun H0 G H σ s gh Q q =>
  h H0 G H σ s gh _ fun vs G1 H1 e1 a1 => ⟨by rw [a1.length]; exact Nat.le_trans hl (by decide), fun p hp => by
    have e2 : Ext G1 H1 (upd G1 p (.tup vs)) (upd H1 p (.tup vs)) := Ext.new e1.gh hp
    exact q _ _ _ (e1.trans e2) (.tup upd_same (a1.up e2.gg))⟩
theorem ep_none : EvP K tNoPart Γ none := fun H0 G H σ s gh Q q => q G H (Ext.refl gh)
theorem ep_some {i : Int} (h : EvD K te Γ (.int i)) : EvP K (tPart te) Γ (some i) := fun H0 G H σ s gh Q q => h H0 G H σ s gh _ fun x G1 H1 e1 a1 => by
  cases a1; exact ⟨i, rfl, q G1 H1 e1⟩
/-- the items of ds[lo:hi] -/
def cutD (ds : List PyData) (lo hi : Option Int) : List PyData := (ds.drop (HT.sIx ds.length 0 lo)).take (HT.sIx ds.length ds.length hi - HT.sIx ds.length 0 lo)
theorem eo_cut {tl th : TO} {ds : List PyData} {lo hi : Option Int} (h : EvD K te Γ (.list ds)) (h1 : EvP K tl Γ lo) (h2 : EvP K th Γ hi) : EvO K (tSl (rSlL K) te tl th) Γ (cutD ds lo hi) := fun H0 G H σ s gh Q q =>
  h H0 G H σ s gh _ fun x G1 H1 e1 a1 => h1 H0 G1 H1 σ (s.ext e1) e1.gh _ fun G2 H2 e2 => h2 H0 G2 H2 σ (s.ext (e1.trans e2)) e2.gh _ fun G3 H3 e3 => by
    have e := (e1.trans e2).trans e3
    cases a1 with
    | lst b1 b2 =>
      rename_i a xs
      have hx : H3 a = some (.lst xs) := e3.gh _ _ (e3.gg _ _ (e2.gg _ _ b1))
      refine ⟨a, xs, rfl, SqL.of hx, fun p hp => q p _ G3 _ (e.trans (Ext.own e3.gh hp)) (e.hh.free hp) (e3.gh.free hp) upd_same ?_⟩
      unfold cutV cutD
      rw [b2.length]
      exact ((b2.up (e2.gg.trans e3.gg)).drop _).take _
/-- a slice of the script -/
theorem eo_cutScr {tl th : TO} {ns : List Int} {lo hi : Option Int} (h : EvD K te Γ (scr ns)) (h1 : EvP K tl Γ lo) (h2 : EvP K th Γ hi) : EvO K (tSl (rSlL K) te tl th) Γ (cutD (ns.map .int) lo hi) := fun H0 G H σ s gh Q q =>
  h H0 G H σ s gh _ fun x G1 H1 e1 a1 => h1 H0 G1 H1 σ (s.ext e1) e1.gh _ fun G2 H2 e2 => h2 H0 G2 H2 σ (s.ext (e1.trans e2)) e2.gh _ fun G3 H3 e3 => by
    have e := (e1.trans e2).trans e3
    obtain ⟨a, rfl, b1⟩ := a1.scrI
    · have hx : SqL K H3 a (ns.map V.int) := (e2.gg.trans (e3.gg.trans e3.gh)).seq b1
      refine ⟨a, _, rfl, hx, fun p hp => q p _ G3 _ (e.trans (Ext.own e3.gh hp)) (e.hh.free hp) (e3.gh.free hp) upd_same ?_⟩
      unfold cutV cutD
      rw [List.length_map, List.length_map]
      exact ((atAll_ints ns).drop _).take _

/-! ### calls of built-ins, by values -/
/-- what a call gives on data -/
def RcD (K : PySem.W.Frag) (r : List V → Hp → VK → Prop) (ds : List PyData) (f : PyData) : Prop := ∀ (G H : Hp) (vs : List V), Same G H → AtAll K G vs ds → ∀ Q : VK, (∀ v G' H', Ext G H G' H' → At K G' v f → Q v H') → r vs H Q
def RcO (K : PySem.W.Frag) (r : List V → Hp → VK → Prop) (ds : List PyData) (fs : List PyData) : Prop := ∀ (G H : Hp) (vs : List V), Same G H → AtAll K G vs ds → ∀ Q : VK,
  (∀ p vs G' H', Ext G H G' H' → H p = none → G' p = none → H' p = some (.lst vs) → AtAll K G' vs fs → Q (.ref p) H') → r vs H Q
theorem ev_cb {r : List V → Hp → VK → Prop} {ta : TA} {ds : List PyData} {f : PyData} (h : EvA K ta Γ ds) (hr : RcD K r ds f) : EvD K (tCB r ta) Γ f := fun H0 G H σ s gh Q q =>
  h H0 G H σ s gh _ fun vs G1 H1 e1 a1 => hr G1 H1 vs e1.gh a1 Q fun v G2 H2 e2 a2 => q v G2 H2 (e1.trans e2) a2
theorem eo_cb {r : List V → Hp → VK → Prop} {ta : TA} {ds fs : List PyData} (h : EvA K ta Γ ds) (hr : RcO K r ds fs) : EvO K (tCB r ta) Γ fs := fun H0 G H σ s gh Q q =>
  h H0 G H σ s gh _ fun vs G1 H1 e1 a1 => hr G1 H1 vs e1.gh a1 Q fun p ws G2 H2 e2 hp gp h2 a2 => q p ws G2 H2 (e1.trans e2) (e1.hh.free hp) gp h2 a2
def rLenV (K : PySem.W.Frag) : List V → Hp → VK → Prop := fun xs H Q => ∃ x n, xs = [x] ∧ LenV K x H n ∧ Q (.int n) H
theorem ev_lenL {ds : List PyData} (ha : EvD K ta Γ (.list ds)) : EvD K (tCB (rLenV K) (tCons ta tNil)) Γ (.int (ds.length : Int)) := ev_cb (ea_cons ha ea_nil) fun G H vs gh a Q q => by
  cases a with
  | cons a1 a2 =>
    cases a2
    cases a1 with
    | lst b1 b2 =>
      rename_i l xs
      exact ⟨_, ds.length, rfl, .inl ⟨xs, SqL.of (gh _ _ b1), b2.length.symm⟩, q _ G H (Ext.refl gh) (.int _)⟩
theorem ev_lenT {ds : List PyData} (ha : EvD K ta Γ (.tuple ds)) : EvD K (tCB (rLenV K) (tCons ta tNil)) Γ (.int (ds.length : Int)) := ev_cb (ea_cons ha ea_nil) fun G H vs gh a Q q => by
  cases a with
  | cons a1 a2 =>
    cases a2
    cases a1 with
    | tup b1 b2 =>
      rename_i l xs
      exact ⟨_, ds.length, rfl, .inr ⟨xs, SqT.of (gh _ _ b1), b2.length.symm⟩, q _ G H (Ext.refl gh) (.int _)⟩
theorem ev_lenScr {ns : List Int} (ha : EvD K ta Γ (scr ns)) : EvD K (tCB (rLenV K) (tCons ta tNil)) Γ (.int (ns.length : Int)) := ev_cb (ea_cons ha ea_nil) fun G H vs gh a Q q => by
  cases a with
  | cons a1 a2 =>
    cases a2
    obtain ⟨a, rfl, b1⟩ := a1.scrI
    · exact ⟨_, ns.length, rfl, .inl ⟨_, gh.seq b1, by simp⟩, q _ G H (Ext.refl gh) (.int _)⟩
theorem ev_lenS {z : Str} (ha : EvD K ta Γ (.str z)) (hz : z.length ≤ sizeLine) : EvD K (tCB (rLenV K) (tCons ta tNil)) Γ (.int (z.length : Int)) := ev_cb (ea_cons ha ea_nil) fun G H vs gh a Q q => by
  cases a with
  | cons a1 a2 =>
    cases a2
    cases a1
    exact ⟨_, z.length, rfl, ⟨hz, rfl⟩, q _ G H (Ext.refl gh) (.int _)⟩
def rListV (K : PySem.W.Frag) : List V → Hp → VK → Prop := fun xs H Q => ∃ p ys, xs = [.ref p] ∧ (SqL K H p ys ∨ SqT K H p ys) ∧ ∀ l, H l = none → Q (.ref l) (upd H l (.lst ys))
theorem eo_list {ds : List PyData} (ha : EvD K ta Γ (.list ds)) : EvO K (tCB (rListV K) (tCons ta tNil)) Γ ds := eo_cb (ea_cons ha ea_nil) fun G H vs gh a Q q => by
  cases a with
  | cons a1 a2 =>
    cases a2
    cases a1 with
    | lst b1 b2 =>
      rename_i l xs
      exact ⟨l, xs, rfl, .inl (SqL.of (gh _ _ b1)), fun p hp => q p xs G _ (Ext.own gh hp) hp (gh.free hp) upd_same b2⟩
theorem eo_listT {ds : List PyData} (ha : EvD K ta Γ (.tuple ds)) : EvO K (tCB (rListV K) (tCons ta tNil)) Γ ds := eo_cb (ea_cons ha ea_nil) fun G H vs gh a Q q => by
  cases a with
  | cons a1 a2 =>
    cases a2
    cases a1 with
    | tup b1 b2 =>
      rename_i l xs
      exact ⟨l, xs, rfl, .inr (SqT.of (gh _ _ b1)), fun p hp => q p xs G _ (Ext.own gh hp) hp (gh.free hp) upd_same b2⟩
def rTupleV (K : PySem.W.Frag) : List V → Hp → VK → Prop := fun xs H Q => ∃ p ys, xs = [.ref p] ∧ ((SqL K H p ys ∧ ∀ l, H l = none → Q (.ref l) (upd H l (.tup ys))) ∨ (SqT K H p ys ∧ Q (.ref p) H))
theorem ev_tuple {ds : List PyData} (ha : EvD K ta Γ (.list ds)) : EvD K (tCB (rTupleV K) (tCons ta tNil)) Γ (.tuple ds) := ev_cb (ea_cons ha ea_nil) fun G H vs gh a Q q => by
  cases a with
  | cons a1 a2 =>
    cases a2
    cases a1 with
    | lst b1 b2 =>
      rename_i l xs
      refine ⟨l, xs, rfl, .inl ⟨SqL.of (gh _ _ b1), fun p hp => ?_⟩⟩
      have e2 : Ext G H (upd G p (.tup xs)) (upd H p (.tup xs)) := Ext.new gh hp
      exact q _ _ _ e2 (.tup upd_same (b2.up e2.gg))
/-- sum, max, all -/
theorem ev_sum {ns : List Int} (ha : EvD K ta Γ (.list (ns.map .int))) : EvD K (tCB (rSum K) (tCons ta tNil)) Γ (.int ns.sum) := ev_cb (ea_cons ha ea_nil) fun G H vs gh a Q q => by
  cases a with
  | cons a1 a2 =>
    cases a2
    cases a1 with
    | lst b1 b2 =>
      rename_i l xs
      have e := b2.ints
      subst e
      exact ⟨l, ns, rfl, SqL.of (gh _ _ b1), q _ G H (Ext.refl gh) (.int _)⟩
theorem ev_all {bs : List Bool} (ha : EvD K ta Γ (.list (bs.map .bool))) : EvD K (tCB (rAll K) (tCons ta tNil)) Γ (.bool (bs.all id)) := ev_cb (ea_cons ha ea_nil) fun G H vs gh a Q q => by
  cases a with
  | cons a1 a2 =>
    cases a2
    cases a1 with
    | lst b1 b2 =>
      rename_i l xs
      have e := b2.bools
      subst e
      exact ⟨l, bs, rfl, SqL.of (gh _ _ b1), q _ G H (Ext.refl gh) (.bl _)⟩
/-- the greatest of some -/
def maxL : List Int → Int
  | [] => 0
  | [x] => x
  | x :: y :: r => max x (maxL (y :: r))
theorem maxL_mem : ∀ {ns : List Int}, ns ≠ [] → maxL ns ∈ ns
  | [], h => absurd rfl h
  | [x], _ => by simp [maxL]
  | x :: y :: r, _ => by
    have ih := maxL_mem (ns := y :: r) (by simp)
    show max x (maxL (y :: r)) ∈ _
    by_cases z : x ≤ maxL (y :: r)
    · rw [show max x (maxL (y :: r)) = maxL (y :: r) by omega]; exact List.mem_cons_of_mem _ ih
    · rw [show max x (maxL (y :: r)) = x by omega]; exact List.mem_cons_self
theorem le_maxL : ∀ {ns : List Int} {x : Int}, x ∈ ns → x ≤ maxL ns
  | [], x, h => by cases h
  | [y], x, h => by have : x = y := by simpa using h
                    subst this; exact Int.le_refl _
  | y :: z :: r, x, h => by
    show x ≤ max y (maxL (z :: r))
    rcases List.mem_cons.mp h with e | e
    · omega
    · have := le_maxL (ns := z :: r) e; omega
theorem ev_max {ns : List Int} (ha : EvD K ta Γ (.list (ns.map .int))) (hn : ns ≠ []) : EvD K (tCB (rMax K) (tCons ta tNil)) Γ (.int (maxL ns)) := ev_cb (ea_cons ha ea_nil) fun G H vs gh a Q q => by
  cases a with
  | cons a1 a2 =>
    cases a2
    cases a1 with
    | lst b1 b2 =>
      rename_i l xs
      have e := b2.ints
      subst e
      refine ⟨l, ns, rfl, SqL.of (gh _ _ b1), List.length_pos_iff.mpr hn, fun m hm hle => ?_⟩
      have e : m = maxL ns := Int.le_antisymm (le_maxL hm) (hle _ (maxL_mem hn))
      subst e
      exact q _ G H (Ext.refl gh) (.int _)
def rMax2V : List V → Hp → VK → Prop := fun xs H Q => ∃ i j, xs = [.int i, .int j] ∧ Q (.int (if j > i then j else i)) H
def rMin2V : List V → Hp → VK → Prop := fun xs H Q => ∃ i j, xs = [.int i, .int j] ∧ Q (.int (if j < i then j else i)) H
theorem ev_max2 {i j : Int} (ha : EvD K ta Γ (.int i)) (hb : EvD K tb Γ (.int j)) : EvD K (tCB rMax2V (tCons ta (tCons tb tNil))) Γ (.int (max i j)) := ev_cb (ea_cons ha (ea_cons hb ea_nil)) fun G H vs gh a Q q => by
  cases a with
  | cons a1 a2 =>
    cases a1
    cases a2 with
    | cons a2 a3 =>
      cases a2
      cases a3
      refine ⟨i, j, rfl, ?_⟩
      rw [show (if j > i then j else i) = max i j by split <;> omega]
      exact q _ G H (Ext.refl gh) (.int _)
theorem ev_min2 {i j : Int} (ha : EvD K ta Γ (.int i)) (hb : EvD K tb Γ (.int j)) : EvD K (tCB rMin2V (tCons ta (tCons tb tNil))) Γ (.int (min i j)) := ev_cb (ea_cons ha (ea_cons hb ea_nil)) fun G H vs gh a Q q => by
  cases a with
  | cons a1 a2 =>
    cases a1
    cases a2 with
    | cons a2 a3 =>
      cases a2
      cases a3
      refine ⟨i, j, rfl, ?_⟩
      rw [show (if j < i then j else i) = min i j by split <;> omega]
      exact q _ G H (Ext.refl gh) (.int _)
def rInt1V : List V → Hp → VK → Prop := fun xs H Q => (∃ i, xs = [.int i] ∧ Q (.int i) H) ∨ ∃ k, xs = [.bl k] ∧ Q (.int (if k then 1 else 0)) H
theorem ev_intB {k : Bool} (ha : EvD K ta Γ (.bool k)) : EvD K (tCB rInt1V (tCons ta tNil)) Γ (.int (if k then 1 else 0)) := ev_cb (ea_cons ha ea_nil) fun G H vs gh a Q q => by
  cases a with
  | cons a1 a2 =>
    cases a1
    cases a2
    exact .inr ⟨k, rfl, q _ G H (Ext.refl gh) (.int _)⟩
/-- isinstance(x, T) -/
def tyD : PyData → String
  | .none => "NoneType"
  | .bool _ => "bool"
  | .int _ => "int"
  | .str _ => "str"
  | .list _ => "list"
  | .tuple _ => "tuple"
  | .dict [] => "dict"
  | .dict _ => "list"
theorem At.ty {K : PySem.W.Frag} {G H : Hp} (gh : Same G H) {v : V} {d : PyData} (h : At K G v d) : TyX K H v (.type (tyD d)) := by
  cases h with
  | non => exact .base .non
  | bl b => exact .base (.bl b)
  | int i => exact .base (.int i)
  | str x => exact .base (.str x)
  | lst h1 _ => exact .base (.lst (gh _ _ h1))
  | tup h1 _ => exact .base (.tup (gh _ _ h1))
  | dic h1 => exact .base (.dK (gh _ _ h1))
  | scr h1 _ =>
    rcases gh.seq h1 with (z | ⟨o, z⟩) | ⟨o, its, n, z, c, _⟩
    · exact .base (.lst z)
    · exact .base (.frz z)
    · exact .kList z c
theorem ev_isi {d : PyData} {n : String} {b : Bool} (ha : EvD K ta Γ d) (h : kitB (tyD d) n = some b) : EvD K (tCB (rIsi K) (tCons ta (tCons (tC (.ty n)) tNil))) Γ (.bool b) := fun H0 G H σ s gh Q q =>
  ha H0 G H σ s gh _ fun v G1 H1 e1 a1 => ⟨v, .ty n, _, _, b, rfl, .ty n, a1.ty e1.gh, kit_ty h, q _ G1 H1 e1 (.bl b)⟩

/-! ### in -/
def rInV (K : PySem.W.Frag) (neg : Bool) : R2 := rIn K neg
theorem flat_at {K : PySem.W.Frag} {G : Hp} {v : V} {d : PyData} (s : scal d = true) (h : At K G v d) : flatV v = true := by
  cases h <;> first | rfl | (simp [scal] at s)
theorem all_flat {K : PySem.W.Frag} {G : Hp} {ns : List Int} : (ns.map V.int).all flatV = true := by
  induction ns with
  | nil => rfl
  | cons n ns ih => rw [List.map_cons, List.all_cons, ih]; rfl
theorem inV_ints {i : Int} {ns : List Int} : inV (.int i) (ns.map V.int) = decide (i ∈ ns) := by
  unfold inV
  induction ns with
  | nil => simp
  | cons n ns ih =>
    rw [List.map_cons, List.any_cons, ih]
    show ((n == i) || decide (i ∈ ns)) = _
    by_cases z : n = i
    · subst z; simp
    · have z' : ¬ i = n := fun y => z y.symm
      simp [z, z']
theorem ev_inI {i : Int} {ns : List Int} (ha : EvD K ta Γ (.int i)) (hb : EvD K tb Γ (.list (ns.map .int))) : EvD K (tOp (rIn K false) ta tb) Γ (.bool (decide (i ∈ ns))) := ev_op ha hb fun G H x y gh a b Q q => by
  cases a
  cases b with
  | lst b1 b2 =>
    have e := b2.ints
    subst e
    refine ⟨_, _, rfl, .inl (SqL.of (gh _ _ b1)), rfl, all_flat (K := K) (G := G), ?_⟩
    rw [inV_ints]
    exact q _ G H (Ext.refl gh) (.bl _)
theorem ev_ninI {i : Int} {ns : List Int} (ha : EvD K ta Γ (.int i)) (hb : EvD K tb Γ (.list (ns.map .int))) : EvD K (tOp (rIn K true) ta tb) Γ (.bool (!decide (i ∈ ns))) := ev_op ha hb fun G H x y gh a b Q q => by
  cases a
  cases b with
  | lst b1 b2 =>
    have e := b2.ints
    subst e
    refine ⟨_, _, rfl, .inl (SqL.of (gh _ _ b1)), rfl, all_flat (K := K) (G := G), ?_⟩
    rw [inV_ints]
    exact q _ G H (Ext.refl gh) (.bl _)
/-- in a list of data at any depth -/
theorem ev_ninD {d : PyData} {ds : List PyData} (ha : EvD K ta Γ d) (hb : EvD K tb Γ (.list ds)) (sd : SeqAt.shaped d = true) (se : SeqAt.shaped (.list ds) = true) : EvD K (tOp (rNotInD K) ta tb) Γ (.bool (!ds.any fun z => PyData.eqv z d)) :=
  ev_op ha hb fun G H x y gh a b Q q => ⟨d, ds, dp_up gh a sd, dp_up gh b se, sd, se, q _ G H (Ext.refl gh) (.bl _)⟩
theorem ev_inD {d : PyData} {ds : List PyData} (ha : EvD K ta Γ d) (hb : EvD K tb Γ (.list ds)) (sd : SeqAt.shaped d = true) (se : SeqAt.shaped (.list ds) = true) : EvD K (tOp (rInD K) ta tb) Γ (.bool (ds.any fun z => PyData.eqv z d)) :=
  ev_op ha hb fun G H x y gh a b Q q => ⟨d, ds, dp_up gh a sd, dp_up gh b se, sd, se, q _ G H (Ext.refl gh) (.bl _)⟩
end
end PD

set_option Elab.async false
set_option linter.all false
set_option maxRecDepth 100000
set_option maxHeartbeats 1000000
/-! Targets, comprehensions, contracts, statements over data. -/
namespace PD
open PySem L2

/-! ### targets -/
def TgD (K : PySem.W.Frag) (g : TG) (d : PyData) (Γ Γ' : Env) (ws : List Nat) : Prop := ∀ (H0 G H : Hp) (σ : St) (v : V), Sat K H0 G H σ Γ → Same G H → At K G v d → ∀ Q : St → Hp → Prop,
  (∀ σ', Sat K H0 G H σ' Γ' → σ'.length = σ.length → (∀ i, i ∉ ws → σ'[i]? = σ[i]?) → Q σ' H) → g v σ H Q
section
variable {K : PySem.W.Frag} {Γ Γ' : Env}
theorem tg_name {j : Nat} {d : PyData} : TgD K (gName j) d Γ (Γ.set j (.da d)) [j] := fun H0 G H σ v s gh a Q q =>
  q _ (s.setD a) (by simp) fun i hi => List.getElem?_set_ne (fun e => hi (by simp [e]))
theorem tg_tup2 {i j : Nat} {d e : PyData} : TgD K (gTup K 2 (gCons (gName i) (gCons (gName j) gNil))) (.tuple [d, e]) Γ ((Γ.set i (.da d)).set j (.da e)) [i, j] := fun H0 G H σ v s gh a Q q => by
  cases a with
  | tup h1 h2 =>
    cases h2 with
    | cons a1 a2 =>
      cases a2 with
      | cons a3 a4 =>
        cases a4
        refine ⟨_, _, rfl, SqT.of (gh _ _ h1), rfl, _, _, rfl, _, _, rfl, rfl, ?_⟩
        refine q _ ((s.setD a1).setD a3) (by simp) fun k hk => ?_
        have n1 : ¬ i = k := fun e => hk (by simp [e])
        have n2 : ¬ j = k := fun e => hk (by simp [e])
        rw [List.getElem?_set_ne n2, List.getElem?_set_ne n1]
end

/-! ### comprehensions -/
def wipeE (Γ : Env) : List Nat → Env
  | [] => Γ
  | v :: vs => (wipeE Γ vs).set v .no
theorem Sat.wipe {K : PySem.W.Frag} {H0 G H : Hp} {σ : St} {Γ : Env} (s : Sat K H0 G H σ Γ) : ∀ vs : List Nat, Sat K H0 G H (L2.wipe σ vs) (wipeE Γ vs)
  | [] => s
  | v :: vs => (Sat.wipe s vs).setN
theorem wipe_get (σ : St) (i : Nat) : ∀ vs : List Nat, (L2.wipe σ vs)[i]? = if i ∈ vs ∧ i < σ.length then some none else σ[i]?
  | [] => by simp [L2.wipe]
  | v :: vs => by
    unfold L2.wipe
    by_cases z : v = i
    · subst z
      by_cases hl : v < σ.length
      · rw [List.getElem?_set_self (by rw [wipe_length]; exact hl), if_pos ⟨List.mem_cons_self, hl⟩]
      · rw [if_neg (fun h => hl h.2), List.getElem?_eq_none (by rw [List.length_set, wipe_length]; omega), List.getElem?_eq_none (by omega)]
    · rw [List.getElem?_set_ne z, wipe_get σ i vs]
      have e : (i ∈ v :: vs) ↔ i ∈ vs := by
        rw [List.mem_cons]
        exact ⟨fun h => h.elim (fun y => absurd y.symm z) id, .inr⟩
      simp only [e]
theorem wipe_same {σ τ : St} {vs : List Nat} (hl : τ.length = σ.length) (h : ∀ i, i ∉ vs → τ[i]? = (L2.wipe σ vs)[i]?) : L2.wipe τ vs = L2.wipe σ vs := by
  refine List.ext_getElem? fun i => ?_
  rw [wipe_get, wipe_get]
  by_cases z : i ∈ vs
  · rw [hl]
    by_cases y : i < σ.length
    · rw [if_pos ⟨z, y⟩, if_pos ⟨z, y⟩]
    · rw [if_neg (fun q => y q.2), if_neg (fun q => y q.2), List.getElem?_eq_none (by omega), List.getElem?_eq_none (by omega)]
  · rw [if_neg (fun q => z q.1), if_neg (fun q => z q.1), h i z, wipe_get, if_neg (fun q => z q.1)]
section
variable {K : PySem.W.Frag} {Γ : Env} {ta tl te : TE} {tt : TT} {g : TG} {vs : List Nat}
/-- the new list D within a comprehension, behind the turns' results es -/
def Cw (K : PySem.W.Frag) (G1 H1 : Hp) (D : Addr) (es : List PyData) (H : Hp) : Prop := ∃ (G : Hp) (acc : List V), Ext G1 H1 G H ∧ H D = some (.lst acc) ∧ G D = none ∧ AtAll K G acc es
theorem cw_start {G1 H1 : Hp} {D : Addr} (gh : Same G1 H1) (hD : H1 D = none) : Cw K G1 H1 D [] (upd H1 D (.lst [])) := ⟨G1, [], Ext.own gh hD, upd_same, gh.free hD, .nil⟩
theorem cw_turn {H0 G1 H1 H : Hp} {D : Addr} {es : List PyData} {σ : St} {b : Bool} {d e : PyData} {v : V} {Γ' : Env} (hD : H1 D = none) (s : Sat K H0 G1 H1 σ Γ) (p : Cw K G1 H1 D es H) (hz : es.length ≤ 100000) (a : At K G1 v d)
    (hg : TgD K g d (wipeE Γ vs) Γ' vs) (ht : EvT K tt Γ' b) (he : b = true → EvD K te Γ' e) {Nx : Hp → Prop}
    (h1 : b = true → ∀ H', Cw K G1 H1 D (es ++ [e]) H' → Nx H') (h2 : b = false → ∀ H', Cw K G1 H1 D es H' → Nx H') :
    g v (L2.wipe σ vs) H fun σ2 H2 => L2.wipe σ2 vs = L2.wipe σ vs ∧ tt σ2 H2 fun b H3 => if b = true then te σ2 H3 fun y H4 => ∃ acc, H4 D = some (.lst acc) ∧ acc.length < sizeLine ∧ Nx (upd H4 D (.lst (acc ++ [y]))) else Nx H3 := by
  obtain ⟨G, acc, ex, hd, gd, ha⟩ := p
  refine hg H0 G H _ v ((s.ext ex).wipe vs) ex.gh (a.up ex.gg) _ fun σ2 s2 l2 k2 => ⟨wipe_same (by rw [l2, wipe_length]) k2, ?_⟩
  refine ht H0 G H σ2 s2 ex.gh _ fun G3 H3 e3 => ?_
  have g3 : G3 D = none := e3.fr D gd (by rw [hd]; exact fun z => nomatch z)
  have d3 : H3 D = some (.lst acc) := e3.hh _ _ hd
  cases b with
  | false =>
    show Nx H3
    exact h2 rfl H3 ⟨G3, acc, ex.trans e3, d3, g3, ha.up e3.gg⟩
  | true =>
    show te σ2 H3 _
    refine he rfl H0 G3 H3 σ2 (s2.ext e3) e3.gh _ fun y G4 H4 e4 a4 => ?_
    have g4 : G4 D = none := e4.fr D g3 (by rw [d3]; exact fun z => nomatch z)
    have e14 := (ex.trans e3).trans e4
    have hlen := ha.length
    refine ⟨acc, e4.hh _ _ d3, by rw [hlen]; exact Nat.lt_of_le_of_lt hz (by decide), h1 rfl _ ⟨G4, acc ++ [y], ⟨fun c x q => ?_, e14.gg, fun c x q => ?_, e14.fr⟩, upd_same, g4, (ha.up (e3.gg.trans e4.gg)).snoc a4⟩⟩
    · rw [upd_ne (ne_of_none q hD)]; exact e14.hh _ _ q
    · rw [upd_ne (ne_of_none q g4)]; exact e14.gh _ _ q
theorem take_more {α : Type} {l : List α} {i : Nat} {x : α} (h : l[i]? = some x) : l.take (i + 1) = l.take i ++ [x] := by
  rw [List.take_add_one, h]; rfl
/-- [f x for target in xs if b x] -/
theorem eo_lcL {α : Type} (xs : List α) (emb : α → PyData) (b : α → Bool) (f : α → PyData) (Γx : α → Env) (h : EvD K tl Γ (.list (xs.map emb))) (hz : xs.length ≤ 100000)
    (hg : ∀ x ∈ xs, TgD K g (emb x) (wipeE Γ vs) (Γx x) vs) (ht : ∀ x ∈ xs, EvT K tt (Γx x) (b x)) (he : ∀ x ∈ xs, b x = true → EvD K te (Γx x) (f x)) : EvO K (tLc (iList K tl) g tt te vs) Γ ((xs.filter b).map f) := fun H0 G H σ s gh Q q =>
  h H0 G H σ s gh _ fun v G1 H1 e1 a1 => by
    cases a1 with
    | lst l1 l2 =>
      rename_i l us
      refine ⟨l, rfl, ⟨us, SqL.of (e1.gh _ _ l1)⟩, fun D hD => ?_⟩
      refine lc_list (xs := us) (fun i H' => Cw K G1 H1 D (((xs.take i).filter b).map f) H') (cw_start e1.gh hD) (fun i H' _ p => ?_) (fun i v H' hi p => ?_) (fun H' p => ?_)
      · obtain ⟨G', acc, ex, _⟩ := p
        exact SqL.of (ex.gh _ _ (ex.gg _ _ l1))
      · obtain ⟨d, hd, ad⟩ := l2.getV hi
        rw [List.getElem?_map] at hd
        obtain ⟨x, hx, rfl⟩ := Option.map_eq_some_iff.mp hd
        have hm : x ∈ xs := List.mem_of_getElem? hx
        refine cw_turn hD (s.ext e1) p ?_ ad (hg x hm) (ht x hm) (he x hm) (fun hb H' c => ?_) (fun hb H' c => ?_)
        · rw [List.length_map]
          exact Nat.le_trans (List.length_filter_le _ _) (Nat.le_trans (by rw [List.length_take]; omega) hz)
        · rw [take_more hx, List.filter_append, List.map_append]
          simpa [hb] using c
        · rw [take_more hx, List.filter_append, List.map_append]
          simpa [hb] using c
      · obtain ⟨G', acc, ex, hd, gd, ha⟩ := p
        have hl : us.length = xs.length := by rw [l2.length, List.length_map]
        rw [hl, List.take_length] at ha
        exact q D acc G' H' (e1.trans ex) (e1.hh.free hD) gd hd ha
/-- over range(n) -/
theorem eo_lcR {ta : TA} {n : Int} (b : Nat → Bool) (f : Nat → PyData) (Γx : Nat → Env) (h : EvA K ta Γ [.int n]) (hn : 0 ≤ n ∧ n ≤ 100000)
    (hg : ∀ i : Nat, (i : Int) < n → TgD K g (.int (i : Int)) (wipeE Γ vs) (Γx i) vs) (ht : ∀ i : Nat, (i : Int) < n → EvT K tt (Γx i) (b i)) (he : ∀ i : Nat, (i : Int) < n → b i = true → EvD K te (Γx i) (f i)) :
    EvO K (tLc (iRng1 ta) g tt te vs) Γ (((List.range n.toNat).filter b).map f) := fun H0 G H σ s gh Q q =>
  h H0 G H σ s gh _ fun us G1 H1 e1 a1 => by
    have eu : us = [.int n] := (show AtAll K G1 us ([n].map .int) from a1).ints
    subst eu
    refine ⟨n, rfl, by omega, by omega, fun D hD => ?_⟩
    refine lc_range (lo := 0) (n := n.toNat) (fun i H' => Cw K G1 H1 D (((List.range i).filter b).map f) H') (cw_start e1.gh hD) (fun i H' hi p => ?_) (fun H' p => ?_)
    · have hi' : (i : Int) < n := by omega
      have e0 : (0 : Int) + (i : Int) = (i : Int) := Int.zero_add _
      show g (.int ((0 : Int) + (i : Int))) (L2.wipe σ vs) H' _
      rw [e0]
      refine cw_turn hD (s.ext e1) p ?_ (.int _) (hg i hi') (ht i hi') (he i hi') (fun hb H' c => ?_) (fun hb H' c => ?_)
      · rw [List.length_map]
        exact Nat.le_trans (List.length_filter_le _ _) (by rw [List.length_range]; omega)
      · rw [List.range_succ, List.filter_append, List.map_append]
        simpa [hb] using c
      · rw [List.range_succ, List.filter_append, List.map_append]
        simpa [hb] using c
    · obtain ⟨G', acc, ex, hd, gd, ha⟩ := p
      exact q D acc G' H' (e1.trans ex) (e1.hh.free hD) gd hd ha
theorem filter_yes {α : Type} (xs : List α) : xs.filter (fun _ => true) = xs := by simp
/-- [f x for x in xs] -/
theorem eo_mapL {α : Type} {j : Nat} (xs : List α) (emb : α → PyData) (f : α → PyData) (h : EvD K tl Γ (.list (xs.map emb))) (hz : xs.length ≤ 100000)
    (he : ∀ x ∈ xs, EvD K te ((wipeE Γ [j]).set j (.da (emb x))) (f x)) : EvO K (tLc (iList K tl) (gName j) tYes te [j]) Γ (xs.map f) := by
  have r := eo_lcL (tt := tYes) (g := gName j) (vs := [j]) xs emb (fun _ => true) f (fun x => (wipeE Γ [j]).set j (.da (emb x))) h hz (fun x _ => tg_name) (fun x _ => et_yes) (fun x hx _ => he x hx)
  rwa [filter_yes] at r
theorem eo_mapR {ta : TA} {j : Nat} {n : Int} (f : Nat → PyData) (h : EvA K ta Γ [.int n]) (hn : 0 ≤ n ∧ n ≤ 100000)
    (he : ∀ i : Nat, (i : Int) < n → EvD K te ((wipeE Γ [j]).set j (.da (.int (i : Int)))) (f i)) : EvO K (tLc (iRng1 ta) (gName j) tYes te [j]) Γ ((List.range n.toNat).map f) := by
  have r := eo_lcR (tt := tYes) (g := gName j) (vs := [j]) (fun _ => true) f (fun i => (wipeE Γ [j]).set j (.da (.int (i : Int)))) h hn (fun x _ => tg_name) (fun x _ => et_yes) (fun x hx _ => he x hx)
  rwa [filter_yes] at r
theorem eo_filL {α : Type} {j : Nat} (xs : List α) (emb : α → PyData) (b : α → Bool) (f : α → PyData) (h : EvD K tl Γ (.list (xs.map emb))) (hz : xs.length ≤ 100000)
    (ht : ∀ x ∈ xs, EvT K tt ((wipeE Γ [j]).set j (.da (emb x))) (b x)) (he : ∀ x ∈ xs, b x = true → EvD K te ((wipeE Γ [j]).set j (.da (emb x))) (f x)) : EvO K (tLc (iList K tl) (gName j) tt te [j]) Γ ((xs.filter b).map f) :=
  eo_lcL xs emb b f _ h hz (fun x _ => tg_name) ht he
end

/-! ### frozen for a moment -/
def frz1 : Sl → Sl
  | .ow ds => .da (.list ds)
  | .da d => .da d
  | .fx v o => .fx v o
  | _ => .no
def frz (Γ : Env) : Env := Γ.map frz1
open Classical in
/-- the known part, with the lists that slots own -/
theorem Sat.frz {K : PySem.W.Frag} {H0 G H : Hp} {σ : St} {Γ : Env} (s : Sat K H0 G H σ Γ) (gh : Same G H) : ∃ G2, Same G G2 ∧ Same G2 H ∧ Sat K H0 G2 H σ (PD.frz Γ) ∧ (∀ a, G a = none → G2 a ≠ none → H0 a = none ∧ ∃ us, H a = some (.lst us)) := by
  -- by the places of the slots, all at once: an address is known where it is, or where a slot owns it
  refine ⟨fun a => match G a with | some o => some o | none => if (∃ (i : Nat) (ds : List PyData), Γ[i]? = some (Sl.ow ds) ∧ σ[i]? = some (some (V.ref a))) then H a else none, ?_, ?_, ?_, ?_⟩
  · intro a o e; show (match G a with | some o => some o | none => _) = _; rw [e]
  · intro a o e
    cases q : G a with
    | some u => simp only [q] at e; cases e; exact gh a _ q
    | none =>
      simp only [q] at e
      split at e
      · exact e
      · cases e
  · have up : ∀ a o, G a = some o → (match G a with | some o => some o | none => if (∃ (i : Nat) (ds : List PyData), Γ[i]? = some (Sl.ow ds) ∧ σ[i]? = some (some (V.ref a))) then H a else none) = some o := fun a o e => by rw [e]
    have nod : ∀ {i : Nat} {ks : List Int}, ¬ (PD.frz Γ)[i]? = some (.od ks) := fun {i ks} q => by
      unfold PD.frz at q
      rw [List.getElem?_map] at q
      obtain ⟨x, hx, e⟩ := Option.map_eq_some_iff.mp q
      cases x <;> cases e
    refine ⟨by simp [PD.frz, s.len], fun i d q => ?_, fun i ds q => ?_, fun i j di dj p q1 q2 => ?_, fun i ks q => absurd q nod, fun i j di dj p q => absurd q nod, fun i v o q => ?_⟩
    · unfold PD.frz at q
      rw [List.getElem?_map] at q
      obtain ⟨x, hx, e⟩ := Option.map_eq_some_iff.mp q
      cases x with
      | no => cases e
      | od ks => cases e
      | fx v o => cases e
      | da d' =>
        cases e
        obtain ⟨v, h1, h2⟩ := s.da i d hx
        exact ⟨v, h1, h2.up up⟩
      | ow ds =>
        cases e
        obtain ⟨p, vs, h1, h2, h3, h4, h5⟩ := s.ow i ds hx
        refine ⟨_, h1, .lst (xs := vs) ?_ (h5.up up)⟩
        show (match G p with | some o => some o | none => if (∃ (i : Nat) (ds : List PyData), Γ[i]? = some (Sl.ow ds) ∧ σ[i]? = some (some (V.ref p))) then H p else none) = _
        rw [h3]
        simp only
        rw [if_pos ⟨i, ds, hx, h1⟩]
        exact h2
    · unfold PD.frz at q
      rw [List.getElem?_map] at q
      obtain ⟨x, hx, e⟩ := Option.map_eq_some_iff.mp q
      cases x <;> cases e
    · unfold PD.frz at q1
      rw [List.getElem?_map] at q1
      obtain ⟨x, hx, e⟩ := Option.map_eq_some_iff.mp q1
      cases x <;> cases e
    · unfold PD.frz at q
      rw [List.getElem?_map] at q
      obtain ⟨x, hx, e⟩ := Option.map_eq_some_iff.mp q
      cases x <;> cases e
      exact ⟨(s.fx i _ _ hx).1, fun d z => ((s.fx i _ _ hx).2 d z).up up⟩
  · intro a ga g2
    simp only [ga] at g2
    split at g2
    · rename_i hh
      obtain ⟨i, ds, h1, h2⟩ := hh
      obtain ⟨p, vs, k1, k2, k3, k4, k5⟩ := s.ow i ds h1
      rw [h2] at k1; cases k1
      exact ⟨k4, vs, k2⟩
    · exact absurd rfl g2
section
variable {K : PySem.W.Frag} {Γ : Env} {te : TE} {tt : TT}
theorem ev_frz {d : PyData} (h : EvD K te (frz Γ) d) (hs : scal d = true := by rfl) : EvD K te Γ d := fun H0 G H σ s gh Q q => by
  obtain ⟨G2, g1, g2, s2, _⟩ := s.frz gh
  exact h H0 G2 H σ s2 g2 Q fun v G' H' e a => q v G H' (Ext.grow gh e.hh) (a.scal hs)
theorem et_frz {b : Bool} (h : EvT K tt (frz Γ) b) : EvT K tt Γ b := fun H0 G H σ s gh Q q => by
  obtain ⟨G2, g1, g2, s2, _⟩ := s.frz gh
  exact h H0 G2 H σ s2 g2 Q fun G' H' e => q G H' (Ext.grow gh e.hh)
theorem AtAll.scal {G G' : Hp} : ∀ {ds : List PyData} {vs : List V}, (∀ d ∈ ds, PD.scal d = true) → AtAll K G vs ds → AtAll K G' vs ds
  | [], _, _, h => by cases h; exact .nil
  | d :: ds, _, hs, h => by
    cases h with
    | cons h1 h2 => exact .cons (h1.scal (hs d List.mem_cons_self)) (AtAll.scal (fun e he => hs e (List.mem_cons_of_mem _ he)) h2)
theorem eo_frz {ds : List PyData} (h : EvO K te (frz Γ) ds) (hs : ∀ d ∈ ds, scal d = true) : EvO K te Γ ds := fun H0 G H σ s gh Q q => by
  obtain ⟨G2, g1, g2, s2, _⟩ := s.frz gh
  exact h H0 G2 H σ s2 g2 Q fun p vs G' H' e hp gp hp' ha => q p vs G H' (Ext.grow gh e.hh) hp (g1.free (e.gg.free gp)) hp' (ha.scal hs)
theorem scal_ints {ns : List Int} : ∀ d ∈ ns.map PyData.int, scal d = true := fun d h => by
  obtain ⟨n, _, rfl⟩ := List.mem_map.mp h
  rfl
end

/-! ### contracts -/
inductive Res
  | ok (d : PyData)
  /-- a new list -/
  | own (ds : List PyData)
  /-- an own error of the class at C -/
  | er (C : Addr)
def spOf (K : PySem.W.Frag) (S : List PyData → Res → Prop) : Sp := fun vs H Q E => ∃ (G : Hp) (ds : List PyData) (r : Res), Same G H ∧ AtAll K G vs ds ∧ S ds r ∧
  (∀ d, r = .ok d → ∀ v G' H', Ext G H G' H' → At K G' v d → Q v H') ∧
  (∀ es, r = .own es → ∀ p us G' H', Ext G H G' H' → H p = none → G' p = none → H' p = some (.lst us) → AtAll K G' us es → Q (.ref p) H') ∧
  (∀ C, r = .er C → ∀ H', Same H H' → E (.ref C) none H')
section
variable {K : PySem.W.Frag} {Γ : Env} {ta : TA} {S : List PyData → Res → Prop} {E E' : XK} {ds : List PyData}
theorem ev_call {d : PyData} (h : EvA K ta Γ ds) (hs : S ds (.ok d)) : EvD K (tCall (spOf K S) [] E ta) Γ d := fun H0 G H σ s gh Q q =>
  h H0 G H σ s gh _ fun vs G1 H1 e1 a1 => by
    show spOf K S (vs ++ []) H1 Q E
    rw [List.append_nil]
    exact ⟨G1, ds, .ok d, e1.gh, a1, hs, fun d' z v G' H' e a => by cases z; exact q v G' H' (e1.trans e) a, fun es z => (nomatch z), fun C z => (nomatch z)⟩
theorem eo_call {es : List PyData} (h : EvA K ta Γ ds) (hs : S ds (.own es)) : EvO K (tCall (spOf K S) [] E ta) Γ es := fun H0 G H σ s gh Q q =>
  h H0 G H σ s gh _ fun vs G1 H1 e1 a1 => by
    show spOf K S (vs ++ []) H1 Q E
    rw [List.append_nil]
    exact ⟨G1, ds, .own es, e1.gh, a1, hs, fun d' z => (nomatch z), fun es' z p us G' H' e hp gp hp' ha => by cases z; exact q p us G' H' (e1.trans e) (e1.hh.free hp) gp hp' ha, fun C z => (nomatch z)⟩
theorem ex_call {C : Addr} (h : EvA K ta Γ ds) (hs : S ds (.er C)) : EvX K E (tCall (spOf K S) [] E ta) Γ C := fun H0 G H σ s gh hE Q =>
  h H0 G H σ s gh _ fun vs G1 H1 e1 a1 => by
    show spOf K S (vs ++ []) H1 Q E
    rw [List.append_nil]
    exact ⟨G1, ds, .er C, e1.gh, a1, hs, fun d' z => (nomatch z), fun es' z => (nomatch z), fun C' z H' e => by cases z; exact hE H' (e1.hh.trans e)⟩
end

/-! ### statements -/
inductive Out
  | nx (Γ : Env)
  | rt (d : PyData)
  | ro (ds : List PyData)
  | bk (Γ : Env)
  | ct (Γ : Env)
  | ex (C : Addr)
/-- from G, known ahead, to G' and H' behind; H0 is what stood at the def's entry -/
structure Step (H0 G G' H' : Hp) : Prop where
  hh : Same H0 H'
  gg : Same G G'
  gh : Same G' H'
  fr : ∀ a, G a = none → H0 a ≠ none → G' a = none
theorem Step.trans {H0 G G1 H1 G2 H2 : Hp} (a : Step H0 G G1 H1) (b : Step H0 G1 G2 H2) : Step H0 G G2 H2 := ⟨b.hh, a.gg.trans b.gg, b.gh, fun x q n => b.fr x (a.fr x q n) n⟩
theorem Ext.step {H0 G H G' H' : Hp} (e : Ext G H G' H') (h : Same H0 H) : Step H0 G G' H' := ⟨h.trans e.hh, e.gg, e.gh, fun a q n => e.fr a q (some_up h n)⟩
structure Meets (K : PySem.W.Frag) (E : XK) (H0 G : Hp) (D : Ends) (P : Out → Prop) : Prop where
  nx : ∀ Γ' σ' G' H', P (.nx Γ') → Step H0 G G' H' → Sat K H0 G' H' σ' Γ' → D.nx σ' H'
  rt : ∀ d v G' H', P (.rt d) → Step H0 G G' H' → At K G' v d → D.rt v H'
  ro : ∀ ds p us G' H', P (.ro ds) → Step H0 G G' H' → H0 p = none → G' p = none → H' p = some (.lst us) → AtAll K G' us ds → D.rt (.ref p) H'
  bk : ∀ Γ' σ' G' H', P (.bk Γ') → Step H0 G G' H' → Sat K H0 G' H' σ' Γ' → D.bk σ' H'
  ct : ∀ Γ' σ' G' H', P (.ct Γ') → Step H0 G G' H' → Sat K H0 G' H' σ' Γ' → D.ct σ' H'
  ex : ∀ C H', P (.ex C) → Same H0 H' → E (.ref C) none H'
def HT (K : PySem.W.Frag) (E : XK) (t : TS) (Γ : Env) (P : Out → Prop) : Prop := ∀ (H0 G H : Hp) (σ : St) (D : Ends), Sat K H0 G H σ Γ → Same G H → Same H0 H → Meets K E H0 G D P → t D σ H
section
variable {K : PySem.W.Frag} {E : XK} {t u : TS} {Γ : Env} {P P' : Out → Prop} {te : TE} {tt : TT} {g : TG}
theorem Meets.step {H0 G G1 H1 : Hp} {D : Ends} (m : Meets K E H0 G D P) (s : Step H0 G G1 H1) : Meets K E H0 G1 D P :=
  ⟨fun Γ' σ' G' H' p q => m.nx Γ' σ' G' H' p (s.trans q), fun d v G' H' p q => m.rt d v G' H' p (s.trans q), fun ds q us G' H' p z => m.ro ds q us G' H' p (s.trans z), fun Γ' σ' G' H' p q => m.bk Γ' σ' G' H' p (s.trans q), fun Γ' σ' G' H' p q => m.ct Γ' σ' G' H' p (s.trans q), m.ex⟩
theorem ht_imp (h : HT K E t Γ P) (i : ∀ o, P o → P' o) : HT K E t Γ P' := fun H0 G H σ D s gh h0 m => h H0 G H σ D s gh h0
  ⟨fun Γ' σ' G' H' p => m.nx Γ' σ' G' H' (i _ p), fun d v G' H' p => m.rt d v G' H' (i _ p), fun ds q us G' H' p => m.ro ds q us G' H' (i _ p), fun Γ' σ' G' H' p => m.bk Γ' σ' G' H' (i _ p), fun Γ' σ' G' H' p => m.ct Γ' σ' G' H' (i _ p), fun C H' p => m.ex C H' (i _ p)⟩
/-- what is wanted ahead of u -/
def Then (K : PySem.W.Frag) (E : XK) (u : TS) (P : Out → Prop) : Out → Prop
  | .nx Γ' => HT K E u Γ' P
  | o => P o
theorem ht_seq (h : HT K E t Γ (Then K E u P)) : HT K E (tSeq t u) Γ P := fun H0 G H σ D s gh h0 m => h H0 G H σ { D with nx := u D } s gh h0
  ⟨fun Γ' σ' G' H' p q s' => p H0 G' H' σ' D s' q.gh q.hh (m.step q), fun d v G' H' p => m.rt d v G' H' p, fun ds q us G' H' p => m.ro ds q us G' H' p, fun Γ' σ' G' H' p => m.bk Γ' σ' G' H' p, fun Γ' σ' G' H' p => m.ct Γ' σ' G' H' p, fun C H' p => m.ex C H' p⟩
theorem ht_next (h : P (.nx Γ)) : HT K E tNext Γ P := fun H0 G H σ D s gh h0 m => m.nx Γ σ G H h ((Ext.refl gh).step h0) s
theorem ht_break (h : P (.bk Γ)) : HT K E tBreak Γ P := fun H0 G H σ D s gh h0 m => m.bk Γ σ G H h ((Ext.refl gh).step h0) s
theorem ht_cont (h : P (.ct Γ)) : HT K E tCont Γ P := fun H0 G H σ D s gh h0 m => m.ct Γ σ G H h ((Ext.refl gh).step h0) s
theorem ht_asg {i : Nat} {d : PyData} (h : EvD K te Γ d) (p : P (.nx (Γ.set i (.da d)))) : HT K E (tAsg te (gName i)) Γ P := fun H0 G H σ D s gh h0 m => h H0 G H σ s gh _ fun v G1 H1 e1 a1 =>
  m.nx _ _ G1 H1 p (e1.step h0) ((s.ext e1).setD a1)
/-- name = a new list, the slot's own -/
theorem ht_asgO {i : Nat} {ds : List PyData} (h : EvO K te Γ ds) (p : P (.nx (Γ.set i (.ow ds)))) : HT K E (tAsg te (gName i)) Γ P := fun H0 G H σ D s gh h0 m => h H0 G H σ s gh _ fun q vs G1 H1 e1 hq gq h1 a1 =>
  m.nx _ _ G1 H1 p (e1.step h0) ((s.ext e1).setO h1 gq (h0.free hq) a1 fun j dj z y => by
    obtain ⟨b, ws, k1, k2, _⟩ := s.ow j dj z
    rw [y] at k1; cases k1
    rw [hq] at k2; cases k2)
theorem ht_asgT {i j : Nat} {d e : PyData} (h : EvD K te Γ (.tuple [d, e])) (p : P (.nx ((Γ.set i (.da d)).set j (.da e)))) : HT K E (tAsg te (gTup K 2 (gCons (gName i) (gCons (gName j) gNil)))) Γ P :=
  fun H0 G H σ D s gh h0 m => h H0 G H σ s gh _ fun v G1 H1 e1 a1 => tg_tup2 H0 G1 H1 σ v (s.ext e1) e1.gh a1 _ fun σ' s' _ _ => m.nx _ _ G1 H1 p (e1.step h0) s'
theorem ht_drop {d : PyData} (h : EvD K te Γ d) (p : P (.nx Γ)) : HT K E (tDrop te) Γ P := fun H0 G H σ D s gh h0 m => h H0 G H σ s gh _ fun v G1 H1 e1 a1 => m.nx _ _ G1 H1 p (e1.step h0) (s.ext e1)
theorem ht_ret {d : PyData} (h : EvD K te Γ d) (p : P (.rt d)) : HT K E (tRet te) Γ P := fun H0 G H σ D s gh h0 m => h H0 G H σ s gh _ fun v G1 H1 e1 a1 => m.rt d v G1 H1 p (e1.step h0) a1
theorem ht_retO {ds : List PyData} (h : EvO K te Γ ds) (p : P (.ro ds)) : HT K E (tRet te) Γ P := fun H0 G H σ D s gh h0 m => h H0 G H σ s gh _ fun q vs G1 H1 e1 hq gq h1 a1 => m.ro ds q vs G1 H1 p (e1.step h0) (h0.free hq) gq h1 a1
theorem ht_retN (p : P (.rt .none)) : HT K E tRetN Γ P := fun H0 G H σ D s gh h0 m => m.rt .none .non G H p ((Ext.refl gh).step h0) .non
/-- return of a slot's own list -/
theorem ht_retS {i : Nat} {ds : List PyData} (h : Γ[i]? = some (.ow ds)) (p : P (.ro ds)) : HT K E (tRet (tVar i)) Γ P := fun H0 G H σ D s gh h0 m => by
  obtain ⟨q, vs, h1, h2, h3, h4, h5⟩ := s.ow i ds h
  exact ⟨_, h1, m.ro ds q vs G H p ((Ext.refl gh).step h0) h4 h3 h2 h5⟩
theorem ht_dropX {C : Addr} (h : EvX K E te Γ C) (p : P (.ex C)) : HT K E (tDrop te) Γ P := fun H0 G H σ D s gh h0 m => h H0 G H σ s gh (fun H' e => m.ex C H' p (h0.trans e)) _
theorem ht_retX {C : Addr} (h : EvX K E te Γ C) (p : P (.ex C)) : HT K E (tRet te) Γ P := fun H0 G H σ D s gh h0 m => h H0 G H σ s gh (fun H' e => m.ex C H' p (h0.trans e)) _
theorem ht_asgX {C : Addr} (h : EvX K E te Γ C) (p : P (.ex C)) : HT K E (tAsg te g) Γ P := fun H0 G H σ D s gh h0 m => h H0 G H σ s gh (fun H' e => m.ex C H' p (h0.trans e)) _
theorem ht_if {b : Bool} (h : EvT K tt Γ b) (h1 : b = true → HT K E t Γ P) (h2 : b = false → HT K E u Γ P) : HT K E (tIfS tt t u) Γ P := fun H0 G H σ D s gh h0 m => h H0 G H σ s gh _ fun G1 H1 e1 => by
  cases b with
  | true => exact h1 rfl H0 G1 H1 σ D (s.ext e1) e1.gh (h0.trans e1.hh) (m.step (e1.step h0))
  | false => exact h2 rfl H0 G1 H1 σ D (s.ext e1) e1.gh (h0.trans e1.hh) (m.step (e1.step h0))
/-- raise C('..') -/
def tRaiseC (C : Addr) (E : XK) : TS := fun _ _ H => E (.ref C) none H
theorem ht_raise {C : Addr} (p : P (.ex C)) : HT K E (tRaiseC C E) Γ P := fun H0 G H σ D s gh h0 m => m.ex C H p h0
theorem ht_weak {Γ' : Env} (h : HT K E t Γ' P) (hl : Γ'.length = Γ.length) (w : ∀ (i : Nat) (x y : Sl), Γ[i]? = some x → Γ'[i]? = some y → Wk x y) : HT K E t Γ P := fun H0 G H σ D s gh h0 m => h H0 G H σ D (s.weak hl w) gh h0 m
theorem Sat.frzAt {H0 G H : Hp} {σ : St} (s : Sat K H0 G H σ Γ) {i : Nat} {ds : List PyData} {p : Addr} {vs : List V} (hi : Γ[i]? = some (.ow ds)) (k1 : σ[i]? = some (some (.ref p))) (k2 : H p = some (.lst vs)) (k3 : G p = none) (k5 : AtAll K G vs ds) :
    Sat K H0 (upd G p (.lst vs)) H σ (Γ.set i (.da (.list ds))) := by
  have hil : i < Γ.length := (List.getElem?_eq_some_iff.mp hi).1
  have up : Same G (upd G p (.lst vs)) := same_new k3
  have fo : ∀ {m : Nat} {ks : List Int}, (Γ.set i (.da (.list ds)))[m]? = some (.od ks) → Γ[m]? = some (.od ks) := fun {m ks} q => by
    by_cases z : i = m
    · subst z; rw [List.getElem?_set_self hil] at q; cases q
    · rwa [List.getElem?_set_ne z] at q
  have rf := s.rfSet' (i := i) (x := .da (.list ds)) (fun _ _ z => nomatch z)
  refine ⟨by simp [s.len], fun j d q => ?_, fun j es q => ?_, fun j k dj dk b q1 q2 => ?_, fun j ks q => ?_, fun j k di dj b q1 q2 => s.nd j k di dj b (fo q1) (fo q2), fun j v o q => ⟨(rf j v o q).1, fun d z => ((rf j v o q).2 d z).up up⟩⟩
  · by_cases z : i = j
    · subst z; rw [List.getElem?_set_self hil] at q; cases q
      exact ⟨_, k1, .lst upd_same (k5.up up)⟩
    · rw [List.getElem?_set_ne z] at q
      obtain ⟨v, h1, h2⟩ := s.da j d q
      exact ⟨v, h1, h2.up up⟩
  · by_cases z : i = j
    · subst z; rw [List.getElem?_set_self hil] at q; cases q
    · rw [List.getElem?_set_ne z] at q
      obtain ⟨b, ws, h1, h2, h3, h4, h5⟩ := s.ow j es q
      have nb : b ≠ p := fun y => by subst y; exact z (s.ne i j ds es b hi q k1 h1)
      exact ⟨b, ws, h1, h2, by rw [upd_ne nb]; exact h3, h4, h5.up up⟩
  · have f : ∀ {m : Nat} {dm : List PyData}, (Γ.set i (.da (.list ds)))[m]? = some (.ow dm) → Γ[m]? = some (.ow dm) := fun {m dm} q => by
      by_cases z : i = m
      · subst z; rw [List.getElem?_set_self hil] at q; cases q
      · rwa [List.getElem?_set_ne z] at q
    exact s.ne j k dj dk b (f q1) (f q2)
  · obtain ⟨b, kvs, h1, h2, h3, h4⟩ := s.od j ks (fo q)
    have nb : b ≠ p := fun y => by subst y; rw [k2] at h2; cases h2
    exact ⟨b, kvs, h1, h2, by rw [upd_ne nb]; exact h3, h4⟩
/-- a slot's own list is data from now on -/
theorem ht_frz {i : Nat} {ds : List PyData} (hi : Γ[i]? = some (.ow ds)) (h : HT K E t (Γ.set i (.da (.list ds))) P) : HT K E t Γ P := fun H0 G H σ D s gh h0 m => by
  obtain ⟨p, vs, k1, k2, k3, k4, k5⟩ := s.ow i ds hi
  have g2 : Same (upd G p (.lst vs)) H := fun b x e => by
    by_cases z : b = p
    · subst z; rw [upd_same] at e; cases e; exact k2
    · rw [upd_ne z] at e; exact gh b x e
  exact h H0 (upd G p (.lst vs)) H σ D (s.frzAt hi k1 k2 k3 k5) g2 h0 (m.step ⟨h0, same_new k3, g2, fun a q n => by
    have z : a ≠ p := fun z => n (by rw [z]; exact k4)
    rw [upd_ne z]; exact q⟩)
/-- xs.append(e), xs the slot's own -/
theorem ht_app {i : Nat} {ds : List PyData} {d : PyData} (hi : Γ[i]? = some (.ow ds)) (h : EvD K te Γ d) (hz : ds.length < 100000) (p : P (.nx (Γ.set i (.ow (ds ++ [d]))))) :
    HT K E (tDrop (tBM K "list" rAppend (tVar i) (tCons te tNil))) Γ P := fun H0 G H σ D s gh h0 m => by
  obtain ⟨q, vs, k1, k2, k3, k4, k5⟩ := s.ow i ds hi
  refine ⟨_, k1, .inl ⟨rfl, vs, SqL.of k2⟩, ?_⟩
  refine h H0 G H σ s gh _ fun v G1 H1 e1 a1 => ?_
  have q1 : H1 q = some (.lst vs) := e1.hh _ _ k2
  have g1 : G1 q = none := e1.fr q k3 (by rw [k2]; exact fun z => nomatch z)
  refine ⟨q, vs, v, rfl, rfl, q1, by rw [k5.length]; exact Nat.lt_trans hz (by decide), ?_⟩
  refine m.nx _ _ G1 _ p ⟨fun b x z => ?_, e1.gg, fun b x z => ?_, fun a z n => e1.fr a z (some_up h0 n)⟩ ((s.ext e1).write hi k1 ((k5.up e1.gg).snoc a1))
  · rw [upd_ne (ne_of_none z k4)]; exact e1.hh _ _ (h0 _ _ z)
  · rw [upd_ne (ne_of_none z g1)]; exact e1.gh _ _ z
/-- xs[k] = e, xs the slot's own -/
theorem ixN_of {n : Nat} {k : Int} (h0 : 0 ≤ k) (h : k < n) : ixN n k = some k.toNat := by
  unfold ixN; rw [if_pos h0, if_pos h]
theorem ht_set {i : Nat} {ds : List PyData} {d : PyData} {k : Int} {ti : TE} (hi : Γ[i]? = some (.ow ds)) (h : EvD K te Γ d) (hk : EvD K ti Γ (.int k)) (k0 : 0 ≤ k) (kl : k < ds.length) (p : P (.nx (Γ.set i (.ow (ds.set k.toNat d))))) :
    HT K E (tAsg te (gSub (tVar i) ti rSetL)) Γ P := fun H0 G H σ D s gh h0 m => by
  obtain ⟨q, vs, k1, k2, k3, k4, k5⟩ := s.ow i ds hi
  refine h H0 G H σ s gh _ fun v G1 H1 e1 a1 => ⟨_, k1, ?_⟩
  refine hk H0 G1 H1 σ (s.ext e1) e1.gh _ fun w G2 H2 e2 a2 => ?_
  cases a2
  have e12 := e1.trans e2
  have q1 : H2 q = some (.lst vs) := e12.hh _ _ k2
  have g1 : G2 q = none := e12.fr q k3 (by rw [k2]; exact fun z => nomatch z)
  refine ⟨q, vs, k, k.toNat, rfl, rfl, q1, by rw [k5.length]; exact ixN_of k0 kl, ?_⟩
  refine m.nx _ _ G2 _ p ⟨fun b x z => ?_, e12.gg, fun b x z => ?_, fun a z n => e12.fr a z (some_up h0 n)⟩ ((s.ext e12).write hi k1 ((k5.up e12.gg).set (a1.up e2.gg) _))
  · rw [upd_ne (ne_of_none z k4)]; exact e12.hh _ _ (h0 _ _ z)
  · rw [upd_ne (ne_of_none z g1)]; exact e12.gh _ _ z

/-- name = {} -/
theorem ht_asgK {i : Nat} (p : P (.nx (Γ.set i (.od [])))) : HT K E (tAsg tDNewK (gName i)) Γ P := fun H0 G H σ D s gh h0 m => fun q hq =>
  have e1 : Ext G H G (upd H q (.dK [])) := Ext.own gh hq
  m.nx _ _ G _ p (e1.step h0) ((s.ext e1).setK upd_same (gh.free hq) (h0.free hq) fun j dj z y => by
    obtain ⟨b, ws, k1, k2, _⟩ := s.od j dj z
    rw [y] at k1; cases k1
    rw [hq] at k2; cases k2)
/-- k in d, d the slot's own dict -/
theorem ev_din {i : Nat} {ks : List Int} {k : Int} (hi : Γ[i]? = some (.od ks)) (h : EvD K te Γ (.int k)) : EvD K (tDIn te (tVar i)) Γ (.bool (decide (k ∈ ks))) := fun H0 G H σ s gh Q q =>
  h H0 G H σ s gh _ fun v G1 H1 e1 a1 => by
    cases a1
    obtain ⟨b, kvs, k1, k2, k3, k4, k5, k6⟩ := (s.ext e1).od i ks hi
    refine ⟨_, k1, b, _, rfl, DGet.k (k := Sum.inl k) k2, ?_⟩
    rw [k6]
    exact q _ G1 H1 e1 (.bl _)
/-- d[k] = v, a new key -/
theorem ht_put {i : Nat} {ks : List Int} {k : Int} {d : PyData} {ti : TE} (hi : Γ[i]? = some (.od ks)) (h : EvD K te Γ d) (hk : EvD K ti Γ (.int k)) (nk : k ∉ ks) (hz : ks.length ≤ 100000) (p : P (.nx (Γ.set i (.od (ks ++ [k]))))) :
    HT K E (sDPut (tVar i) ti te) Γ P := fun H0 G H σ D s gh h0 m => by
  refine h H0 G H σ s gh _ fun v G1 H1 e1 a1 => ?_
  obtain ⟨b, kvs, k1, k2, k3, k4, k5, k6⟩ := (s.ext e1).od i ks hi
  refine ⟨_, k1, ?_⟩
  refine hk H0 G1 H1 σ (s.ext e1) e1.gh _ fun w G2 H2 e2 a2 => ?_
  cases a2
  have e12 := e1.trans e2
  have q1 : H2 b = some (.dK kvs) := e2.hh _ _ k2
  have g1 : G2 b = none := e2.fr b k3 (by rw [k2]; exact fun z => nomatch z)
  refine ⟨b, _, rfl, DPut.k (k := Sum.inl k) q1 (Nat.lt_of_le_of_lt (Nat.le_trans k5 hz) (by decide)), ?_⟩
  refine m.nx _ _ G2 _ p ⟨fun c x z => ?_, e12.gg, fun c x z => ?_, fun a z n => e12.fr a z (some_up h0 n)⟩ ((s.ext e12).put hi k1 q1 nk)
  · rw [upd_ne (ne_of_none z k4)]; exact e12.hh _ _ (h0 _ _ z)
  · rw [upd_ne (ne_of_none z g1)]; exact e12.gh _ _ z
/-- {} as data -/
theorem ev_dnew : EvD K tDNewK Γ (.dict []) := fun H0 G H σ s gh Q q => fun p hp => q _ _ _ (Ext.new gh hp) (.dic upd_same)

/-! ### lent for a while -/
/-- the slots as they stand, each with the very value that it holds -/
inductive Fix1 : Sl → Sl → Prop
  | no : Fix1 .no .no
  | da (v : V) (d : PyData) : Fix1 (.da d) (.fx v (some d))
  | ow (p : Addr) (ds : List PyData) : Fix1 (.ow ds) (.fx (.ref p) (some (.list ds)))
  | fx (v : V) (o : Option PyData) : Fix1 (.fx v o) (.fx v o)
inductive Fixed : Env → Env → Prop
  | nil : Fixed [] []
  | cons {x y : Sl} {Γ Γ' : Env} : Fix1 x y → Fixed Γ Γ' → Fixed (x :: Γ) (y :: Γ')
theorem Fixed.get {Γ Γf : Env} (h : Fixed Γ Γf) : ∀ {j : Nat} {x : Sl}, Γ[j]? = some x → ∃ y, Γf[j]? = some y ∧ Fix1 x y := by
  induction h with
  | nil => intro j x q; simp at q
  | cons h1 _ ih =>
    intro j x q
    cases j with
    | zero => simp at q; subst q; exact ⟨_, rfl, h1⟩
    | succ j => simp at q; obtain ⟨y, e, f⟩ := ih q; exact ⟨y, by simpa using e, f⟩
theorem Fixed.len {Γ Γf : Env} (h : Fixed Γ Γf) : Γf.length = Γ.length := by
  induction h with
  | nil => rfl
  | cons _ _ ih => simp [ih]
/-- a fixed slot's datum -/
theorem ev_fix {K : PySem.W.Frag} {Γ : Env} {i : Nat} {v : V} {d : PyData} (h : Γ[i]? = some (.fx v (some d))) : EvD K (tVar i) Γ d := fun H0 G H σ s gh Q q => by
  obtain ⟨h1, h2⟩ := s.fx i v _ h
  exact ⟨v, h1, q v G H (Ext.refl gh) (h2 d rfl)⟩
/-- what is wanted behind a statement that was run on the lent slots -/
def Loan (Γ Γf : Env) (P : Out → Prop) : Out → Prop
  | .nx Γ' => Γ'.length = Γ.length ∧ ∃ Γ2 : Env, Γ2.length = Γ.length ∧ (∀ (j : Nat) (x : Sl), Γ2[j]? = some x → x = .no ∨ (Γ[j]? = some x ∧ Γ'[j]? = Γf[j]?)) ∧ P (.nx Γ2)
  | .rt d => scal d = true ∧ P (.rt d)
  | .ex C => P (.ex C)
  | _ => False
/-- the values of the slots, written in -/
def fixE : Env → St → Env
  | .da d :: Γ, some v :: σ => .fx v (some d) :: fixE Γ σ
  | .ow ds :: Γ, some v :: σ => .fx v (some (.list ds)) :: fixE Γ σ
  | .fx v o :: Γ, _ :: σ => .fx v o :: fixE Γ σ
  | _ :: Γ, _ :: σ => .no :: fixE Γ σ
  | _, _ => []
theorem fixE_fixed : ∀ {Γ : Env} {σ : St}, σ.length = Γ.length → (∀ (i : Nat) (ks : List Int), Γ[i]? ≠ some (.od ks)) → (∀ (i : Nat) (d : PyData), Γ[i]? = some (.da d) → ∃ v, σ[i]? = some (some v)) →
    (∀ (i : Nat) (ds : List PyData), Γ[i]? = some (.ow ds) → ∃ p, σ[i]? = some (some (.ref p))) → Fixed Γ (fixE Γ σ)
  | [], σ, h, _, _, _ => by
    have : σ = [] := List.length_eq_zero_iff.mp h
    subst this; exact .nil
  | x :: Γ, [], h, _, _, _ => by simp at h
  | x :: Γ, o :: σ, h, ho, hd, hw => by
    have ih := fixE_fixed (Γ := Γ) (σ := σ) (by simpa using h) (fun i ks q => ho (i + 1) ks (by simpa using q)) (fun i d q => by simpa using hd (i + 1) d (by simpa using q)) (fun i ds q => by simpa using hw (i + 1) ds (by simpa using q))
    cases x with
    | no => exact .cons .no ih
    | da d =>
      obtain ⟨v, e⟩ := hd 0 d rfl
      have e : o = some v := by simpa using e
      subst e
      exact .cons (.da v d) ih
    | ow ds =>
      obtain ⟨p, e⟩ := hw 0 ds rfl
      have e : o = some (.ref p) := by simpa using e
      subst e
      exact .cons (.ow p ds) ih
    | od ks => exact absurd rfl (ho 0 ks)
    | fx v o' => exact .cons (.fx v o') ih
theorem fixE_get : ∀ {Γ : Env} {σ : St} {i : Nat} {x : Sl}, (fixE Γ σ)[i]? = some x → x = .no ∨ ∃ v o, x = .fx v o ∧ (Γ[i]? = some (.fx v o) ∨ (σ[i]? = some (some v) ∧ ∃ d, o = some d ∧ (Γ[i]? = some (.da d) ∨ ∃ ds, d = .list ds ∧ Γ[i]? = some (.ow ds))))
  | [], σ, i, x, h => by simp [fixE] at h
  | y :: Γ, [], i, x, h => by cases y <;> simp [fixE] at h
  | y :: Γ, t :: σ, i, x, h => by
    cases i with
    | succ i =>
      have h' : (fixE Γ σ)[i]? = some x := by
        cases y <;> cases t <;> simpa [fixE] using h
      simpa using fixE_get h'
    | zero =>
      cases y with
      | no => cases t <;> (left; simpa [fixE] using h.symm)
      | od ks => cases t <;> (left; simpa [fixE] using h.symm)
      | fx v o => right; cases t <;> exact ⟨v, o, by simpa [fixE] using h.symm, .inl rfl⟩
      | da d =>
        cases t with
        | none => left; simpa [fixE] using h.symm
        | some v => right; exact ⟨v, some d, by simpa [fixE] using h.symm, .inr ⟨rfl, d, rfl, .inl rfl⟩⟩
      | ow ds =>
        cases t with
        | none => left; simpa [fixE] using h.symm
        | some v => right; exact ⟨v, some (.list ds), by simpa [fixE] using h.symm, .inr ⟨rfl, _, rfl, .inr ⟨ds, rfl, rfl⟩⟩⟩
theorem ht_loan (ho : ∀ (i : Nat) (ks : List Int), Γ[i]? ≠ some (.od ks)) (h : ∀ Γf, Fixed Γ Γf → HT K E t Γf (Loan Γ Γf P)) : HT K E t Γ P := fun H0 G H σ D s gh h0 m => by
  obtain ⟨G2, g1, g2, s2, new⟩ := s.frz gh
  have fz : ∀ {i : Nat} {x : Sl}, Γ[i]? = some x → (PD.frz Γ)[i]? = some (frz1 x) := fun {i x} q => by unfold PD.frz; rw [List.getElem?_map, q]; rfl
  have fd := fixE_fixed (Γ := Γ) (σ := σ) s.len ho (fun i d q => by obtain ⟨v, e, _⟩ := s.da i d q; exact ⟨v, e⟩) (fun i ds q => by obtain ⟨p, vs, e, _⟩ := s.ow i ds q; exact ⟨p, e⟩)
  have fl := fd.len
  have sat : Sat K H G2 H σ (fixE Γ σ) := by
    refine ⟨by rw [fl]; exact s.len, fun i d q => ?_, fun i ds q => ?_, fun i j di dj p q1 q2 => ?_, fun i ks q => ?_, fun i j di dj p q1 q2 => ?_, fun i v o q => ?_⟩
    · rcases fixE_get q with e | ⟨v, o, e, _⟩ <;> cases e
    · rcases fixE_get q with e | ⟨v, o, e, _⟩ <;> cases e
    · rcases fixE_get q1 with e | ⟨v, o, e, _⟩ <;> cases e
    · rcases fixE_get q with e | ⟨v, o, e, _⟩ <;> cases e
    · rcases fixE_get q1 with e | ⟨v, o, e, _⟩ <;> cases e
    · rcases fixE_get q with e | ⟨v', o', e, hh⟩
      · cases e
      · cases e
        rcases hh with hh | ⟨hv, d, rfl, hh | ⟨ds, rfl, hh⟩⟩
        · exact ⟨(s.fx i v o hh).1, fun d z => ((s.fx i v o hh).2 d z).up g1⟩
        · refine ⟨hv, fun d' z => ?_⟩
          cases z
          obtain ⟨v2, e2, a2⟩ := s.da i d hh
          rw [hv] at e2; cases e2
          exact a2.up g1
        · refine ⟨hv, fun d' z => ?_⟩
          cases z
          obtain ⟨v2, e2, a2⟩ := s2.da i _ (fz hh)
          rw [hv] at e2; cases e2
          exact a2
  have gH : ∀ {H' : Hp}, Same H H' → Step H0 G G H' := fun e => ⟨h0.trans e, Same.refl G, gh.trans e, fun _ q _ => q⟩
  refine h _ fd H G2 H σ D sat g2 (Same.refl H) ⟨fun Γ' σ' G' H' p st s' => ?_, fun d v G' H' p st a => m.rt d v G H' p.2 (gH st.hh) (a.scal p.1), fun _ _ _ _ _ p => False.elim p, fun _ _ _ _ p => False.elim p, fun _ _ _ _ p => False.elim p, fun C H' p e => m.ex C H' p (h0.trans e)⟩
  obtain ⟨hl', Γ2, hl, hx, hp⟩ := p
  have key : ∀ {j : Nat} {x : Sl}, Γ2[j]? = some x → x ≠ .no → Γ[j]? = some x ∧ σ'[j]? = σ[j]? := fun {j x} q n => by
    rcases hx j x q with e | ⟨e1, e2⟩
    · exact absurd e n
    · refine ⟨e1, ?_⟩
      obtain ⟨y, hy, fx⟩ := fd.get e1
      rw [hy] at e2
      cases fx with
      | no => exact absurd rfl n
      | da v d => rw [(s'.fx j _ _ e2).1, (sat.fx j _ _ hy).1]
      | ow p ds => rw [(s'.fx j _ _ e2).1, (sat.fx j _ _ hy).1]
      | fx v o => rw [(s'.fx j _ _ e2).1, (sat.fx j _ _ hy).1]
  refine m.nx Γ2 σ' G H' hp (gH st.hh) ⟨by rw [s'.len, hl', hl], fun i d q => ?_, fun i ds q => ?_, fun i j di dj p q1 q2 r1 r2 => ?_, fun i ks q => ?_, fun i j di dj p q1 q2 => ?_, fun i v o q => ?_⟩
  · obtain ⟨e1, e2⟩ := key q (fun z => nomatch z)
    rw [e2]
    exact s.da i d e1
  · obtain ⟨e1, e2⟩ := key q (fun z => nomatch z)
    obtain ⟨p, vs, k1, k2, k3⟩ := s.ow i ds e1
    rw [e2]
    exact ⟨p, vs, k1, st.hh _ _ k2, k3⟩
  · obtain ⟨e1, e2⟩ := key q1 (fun z => nomatch z)
    obtain ⟨e3, e4⟩ := key q2 (fun z => nomatch z)
    rw [e2] at r1
    rw [e4] at r2
    exact s.ne i j di dj p e1 e3 r1 r2
  · obtain ⟨e1, e2⟩ := key q (fun z => nomatch z)
    exact absurd e1 (ho i ks)
  · obtain ⟨e1, e2⟩ := key q1 (fun z => nomatch z)
    exact absurd e1 (ho i di)
  · obtain ⟨e1, e2⟩ := key q (fun z => nomatch z)
    rw [e2]
    exact s.fx i v o e1
/-! ### loops -/
def Turn1 (I : Nat → Env → Prop) (i : Nat) (P : Out → Prop) : Out → Prop
  | .nx Γ' => I (i + 1) Γ'
  | .ct Γ' => I (i + 1) Γ'
  | .bk Γ' => P (.nx Γ')
  | .rt d => P (.rt d)
  | .ro ds => P (.ro ds)
  | .ex C => P (.ex C)
def Pw (K : PySem.W.Frag) (H0 G1 : Hp) (I : Nat → Env → Prop) (i : Nat) (σ : St) (H : Hp) : Prop := ∃ G Γ', Step H0 G1 G H ∧ Sat K H0 G H σ Γ' ∧ I i Γ'
theorem turn_meets {H0 G1 G H : Hp} {D : Ends} {I : Nat → Env → Prop} {i : Nat} (m : Meets K E H0 G1 D P) (st : Step H0 G1 G H) :
    Meets K E H0 G { D with nx := Pw K H0 G1 I (i + 1), ct := Pw K H0 G1 I (i + 1), bk := D.nx } (Turn1 I i P) :=
  ⟨fun Γ' σ' G' H' p q s => ⟨G', Γ', st.trans q, s, p⟩, fun d v G' H' p q => m.rt d v G' H' p (st.trans q), fun ds q us G' H' p z => m.ro ds q us G' H' p (st.trans z), fun Γ' σ' G' H' p q s => m.nx Γ' σ' G' H' p (st.trans q) s,
    fun Γ' σ' G' H' p q s => ⟨G', Γ', st.trans q, s, p⟩, fun C H' p q => m.ex C H' p q⟩
/-- for j in range(n) -/
theorem ht_forR {ta : TA} {j : Nat} {n : Int} (I : Nat → Env → Prop) (h : EvA K ta Γ [.int n]) (hn : 0 ≤ n ∧ n ≤ 100000) (h0 : I 0 Γ)
    (hs : ∀ (i : Nat) (Γ' : Env), (i : Int) < n → I i Γ' → HT K E t (Γ'.set j (.da (.int (i : Int)))) (Turn1 I i P)) (hd : ∀ Γ', I n.toNat Γ' → P (.nx Γ')) : HT K E (tFor (iRng1 ta) (gName j) t) Γ P :=
  fun H0 G H σ D s gh hh m => h H0 G H σ s gh _ fun us G1 H1 e1 a1 => by
    have eu : us = [.int n] := (show AtAll K G1 us ([n].map .int) from a1).ints
    subst eu
    have m1 := m.step (e1.step hh)
    refine ⟨n, rfl, by omega, by omega, for_range (lo := 0) (n := n.toNat) (Pw K H0 G1 I) ⟨G1, Γ, (Ext.refl e1.gh).step (hh.trans e1.hh), s.ext e1, h0⟩ (fun i σ' H' hi p => ?_) (fun σ' H' p => ?_)⟩
    · obtain ⟨G', Γ', st, s', ii⟩ := p
      have e0 : (0 : Int) + (i : Int) = (i : Int) := Int.zero_add _
      show t _ (σ'.set j (some (.int ((0 : Int) + (i : Int))))) H'
      rw [e0]
      exact hs i Γ' (by omega) ii H0 G' H' _ _ (s'.setD (.int _)) st.gh st.hh (turn_meets m1 st)
    · obtain ⟨G', Γ', st, s', ii⟩ := p
      exact m1.nx Γ' σ' G' H' (hd Γ' ii) st s'
/-- for j in range(lo, n) -/
theorem ht_forR2 {ta : TA} {j : Nat} {lo n : Int} (I : Nat → Env → Prop) (h : EvA K ta Γ [.int lo, .int n]) (hn : -100000 ≤ lo ∧ lo ≤ 100000 ∧ -100000 ≤ n ∧ n ≤ 100000) (h0 : I 0 Γ)
    (hs : ∀ (i : Nat) (Γ' : Env), lo + (i : Int) < n → I i Γ' → HT K E t (Γ'.set j (.da (.int (lo + (i : Int))))) (Turn1 I i P)) (hd : ∀ Γ', I (n - lo).toNat Γ' → P (.nx Γ')) : HT K E (tFor (iRng2 ta) (gName j) t) Γ P :=
  fun H0 G H σ D s gh hh m => h H0 G H σ s gh _ fun us G1 H1 e1 a1 => by
    have eu : us = [.int lo, .int n] := (show AtAll K G1 us ([lo, n].map .int) from a1).ints
    subst eu
    have m1 := m.step (e1.step hh)
    refine ⟨lo, n, rfl, ⟨by omega, by omega, by omega, by omega⟩, for_range (lo := lo) (n := (n - lo).toNat) (Pw K H0 G1 I) ⟨G1, Γ, (Ext.refl e1.gh).step (hh.trans e1.hh), s.ext e1, h0⟩ (fun i σ' H' hi p => ?_) (fun σ' H' p => ?_)⟩
    · obtain ⟨G', Γ', st, s', ii⟩ := p
      exact hs i Γ' (by omega) ii H0 G' H' _ _ (s'.setD (.int _)) st.gh st.hh (turn_meets m1 st)
    · obtain ⟨G', Γ', st, s', ii⟩ := p
      exact m1.nx Γ' σ' G' H' (hd Γ' ii) st s'
/-- for target in a list -/
theorem ht_forL {α : Type} (xs : List α) (emb : α → PyData) (Γx : Env → α → Env) {ws : List Nat} (I : Nat → Env → Prop) (h : EvD K te Γ (.list (xs.map emb))) (h0 : I 0 Γ)
    (hg : ∀ (Γ' : Env) (x : α), x ∈ xs → TgD K g (emb x) Γ' (Γx Γ' x) ws) (hs : ∀ (i : Nat) (x : α) (Γ' : Env), xs[i]? = some x → I i Γ' → HT K E t (Γx Γ' x) (Turn1 I i P)) (hd : ∀ Γ', I xs.length Γ' → P (.nx Γ')) :
    HT K E (tFor (iList K te) g t) Γ P :=
  fun H0 G H σ D s gh hh m => h H0 G H σ s gh _ fun v G1 H1 e1 a1 => by
    cases a1 with
    | lst l1 l2 =>
      rename_i l us
      have m1 := m.step (e1.step hh)
      have hl : us.length = xs.length := by rw [l2.length, List.length_map]
      refine ⟨l, rfl, ⟨us, SqL.of (e1.gh _ _ l1)⟩, for_list (xs := us) (Pw K H0 G1 I) ⟨G1, Γ, (Ext.refl e1.gh).step (hh.trans e1.hh), s.ext e1, h0⟩ (fun i σ' H' _ p => ?_) (fun i v σ' H' hi p => ?_) (fun σ' H' p => ?_)⟩
      · obtain ⟨G', Γ', st, s', ii⟩ := p
        exact SqL.of (st.gh _ _ (st.gg _ _ l1))
      · obtain ⟨G', Γ', st, s', ii⟩ := p
        obtain ⟨d, hd', ad⟩ := l2.getV hi
        rw [List.getElem?_map] at hd'
        obtain ⟨x, hx, rfl⟩ := Option.map_eq_some_iff.mp hd'
        exact hg Γ' x (List.mem_of_getElem? hx) H0 G' H' σ' v s' st.gh (ad.up st.gg) _ fun σ2 s2 _ _ => hs i x Γ' hx ii H0 G' H' σ2 _ s2 st.gh st.hh (turn_meets m1 st)
      · obtain ⟨G', Γ', st, s', ii⟩ := p
        rw [hl] at ii
        exact m1.nx Γ' σ' G' H' (hd Γ' ii) st s'
theorem ht_forN {α : Type} {j : Nat} (xs : List α) (emb : α → PyData) (I : Nat → Env → Prop) (h : EvD K te Γ (.list (xs.map emb))) (h0 : I 0 Γ)
    (hs : ∀ (i : Nat) (x : α) (Γ' : Env), xs[i]? = some x → I i Γ' → HT K E t (Γ'.set j (.da (emb x))) (Turn1 I i P)) (hd : ∀ Γ', I xs.length Γ' → P (.nx Γ')) : HT K E (tFor (iList K te) (gName j) t) Γ P :=
  ht_forL xs emb (fun Γ' x => Γ'.set j (.da (emb x))) I h h0 (fun Γ' x _ => tg_name) hs hd
/-- while, by a word that falls -/
def TurnW (I : Nat → Env → Prop) (m : Nat) (P : Out → Prop) : Out → Prop
  | .nx Γ' => ∃ m', m' < m ∧ I m' Γ'
  | .ct Γ' => ∃ m', m' < m ∧ I m' Γ'
  | .bk Γ' => P (.nx Γ')
  | .rt d => P (.rt d)
  | .ro ds => P (.ro ds)
  | .ex C => P (.ex C)
theorem ht_while (I : Nat → Env → Prop) {m0 : Nat} (h0 : I m0 Γ) (hs : ∀ (m : Nat) (Γ' : Env), I m Γ' → ∃ b, EvT K tt Γ' b ∧ (b = true → HT K E t Γ' (TurnW I m P)) ∧ (b = false → P (.nx Γ'))) : HT K E (tWhile tt t) Γ P :=
  fun H0 G H σ D s gh hh m => by
    refine ⟨fun n σ' H' => ∃ G' Γ', Step H0 G G' H' ∧ Sat K H0 G' H' σ' Γ' ∧ I n Γ', ⟨m0, G, Γ, (Ext.refl gh).step hh, s, h0⟩, ?_⟩
    rintro n σ' H' ⟨G', Γ', st, s', ii⟩
    obtain ⟨b, hb, h1, h2⟩ := hs n Γ' ii
    refine hb H0 G' H' σ' s' st.gh _ fun G2 H2 e2 => ?_
    have st2 : Step H0 G G2 H2 := st.trans (e2.step st.hh)
    cases b with
    | false =>
      show D.nx σ' H2
      exact m.nx Γ' σ' G2 H2 (h2 rfl) st2 (s'.ext e2)
    | true =>
      refine ⟨fun σ3 H3 => ∃ m', m' < n ∧ ∃ G3 Γ3, Step H0 G G3 H3 ∧ Sat K H0 G3 H3 σ3 Γ3 ∧ I m' Γ3, fun σ3 H3 ⟨m', hm, G3, Γ3, z⟩ => ⟨m', hm, G3, Γ3, z⟩, ?_⟩
      refine h1 rfl H0 G2 H2 σ' _ (s'.ext e2) e2.gh st2.hh ⟨fun Γ3 σ3 G3 H3 p q s3 => ?_, fun d v G3 H3 p q => m.rt d v G3 H3 p (st2.trans q), fun ds q us G3 H3 p z => m.ro ds q us G3 H3 p (st2.trans z), fun Γ3 σ3 G3 H3 p q s3 => m.nx Γ3 σ3 G3 H3 p (st2.trans q) s3, fun Γ3 σ3 G3 H3 p q s3 => ?_, fun C H3 p q => m.ex C H3 p q⟩
      · obtain ⟨m', hm, i'⟩ := p
        exact ⟨m', hm, G3, Γ3, st2.trans q, s3, i'⟩
      · obtain ⟨m', hm, i'⟩ := p
        exact ⟨m', hm, G3, Γ3, st2.trans q, s3, i'⟩
end

/-! ### a def -/
/-- what a def's body is to come to -/
def Post : Res → Out → Prop
  | .ok d, .rt e => e = d
  | .ok d, .nx _ => d = .none
  | .own ds, .ro es => es = ds
  | .er C, .ex C' => C' = C
  | _, _ => False
def env0 (N : List Str) (ds : List PyData) : Env := ds.map .da ++ List.replicate (N.length - ds.length) .no
theorem sat_start {K : PySem.W.Frag} {G H : Hp} {N : List Str} {vs : List V} {ds : List PyData} (a : AtAll K G vs ds) : Sat K H G H (L2.start N vs) (env0 N ds) := by
  have hl := a.length
  have nod : ∀ {i : Nat} {ks : List Int}, ¬ (env0 N ds)[i]? = some (.od ks) := fun {i ks} q => by
    unfold env0 at q
    by_cases hi : i < ds.length
    · rw [List.getElem?_append_left (by simpa using hi), List.getElem?_map] at q
      obtain ⟨e, he, z⟩ := Option.map_eq_some_iff.mp q
      cases z
    · rw [List.getElem?_append_right (by simpa using Nat.le_of_not_lt hi), List.getElem?_replicate] at q
      split at q <;> cases q
  refine ⟨by unfold L2.start env0; simp [hl], fun i d q => ?_, fun i es q => ?_, fun i j di dj p q1 q2 => ?_, fun i ks q => absurd q nod, fun i j di dj p q => absurd q nod, fun i v o q => ?_⟩
  · unfold env0 at q
    by_cases hi : i < ds.length
    · rw [List.getElem?_append_left (by simpa using hi), List.getElem?_map] at q
      obtain ⟨e, he, z⟩ := Option.map_eq_some_iff.mp q
      cases z
      obtain ⟨v, h1, h2⟩ := a.get he
      refine ⟨v, ?_, h2⟩
      unfold L2.start
      rw [List.getElem?_append_left (by simp; omega), List.getElem?_map, h1]
      rfl
    · rw [List.getElem?_append_right (by simpa using Nat.le_of_not_lt hi), List.getElem?_replicate] at q
      split at q <;> cases q
  · unfold env0 at q
    by_cases hi : i < ds.length
    · rw [List.getElem?_append_left (by simpa using hi), List.getElem?_map] at q
      obtain ⟨e, he, z⟩ := Option.map_eq_some_iff.mp q
      cases z
    · rw [List.getElem?_append_right (by simpa using Nat.le_of_not_lt hi), List.getElem?_replicate] at q
      split at q <;> cases q
  · unfold env0 at q1
    by_cases hi : i < ds.length
    · rw [List.getElem?_append_left (by simpa using hi), List.getElem?_map] at q1
      obtain ⟨e, he, z⟩ := Option.map_eq_some_iff.mp q1
      cases z
    · rw [List.getElem?_append_right (by simpa using Nat.le_of_not_lt hi), List.getElem?_replicate] at q1
      split at q1 <;> cases q1
  · unfold env0 at q
    by_cases hi : i < ds.length
    · rw [List.getElem?_append_left (by simpa using hi), List.getElem?_map] at q
      obtain ⟨e, he, z⟩ := Option.map_eq_some_iff.mp q
      cases z
    · rw [List.getElem?_append_right (by simpa using Nat.le_of_not_lt hi), List.getElem?_replicate] at q
      split at q <;> cases q
section
variable {Pg : Program} {w : World} {K : PySem.W.Frag} {mg : Str → Option Value} {base : Heap}
theorem body_of {S : List PyData → Res → Prop} {N : List Str} {t : TS} {vs : List V} {H : Hp} {Q : VK} {E : XK} (h : spOf K S vs H Q E) (hb : ∀ ds r, S ds r → HT K E t (env0 N ds) (Post r)) :
    t { nx := fun _ H' => Q .non H', rt := Q } (L2.start N vs) H := by
  obtain ⟨G, ds, r, gh, a, hs, q1, q2, q3⟩ := h
  refine hb ds r hs H G H _ _ (sat_start a) gh (Same.refl H) ⟨fun Γ' σ' G' H' p st s => ?_, fun d v G' H' p st av => ?_, fun es p us G' H' z st h0 g0 h1 av => ?_, fun Γ' σ' G' H' p st s => ?_, fun Γ' σ' G' H' p st s => ?_, fun C H' p st => ?_⟩
  · cases r with
    | ok d =>
      have e : d = .none := p
      subst e
      exact q1 _ rfl .non G' H' ⟨st.hh, st.gg, st.gh, st.fr⟩ .non
    | own es => exact False.elim p
    | er C => exact False.elim p
  · cases r with
    | ok d' =>
      have e : d = d' := p
      subst e
      exact q1 _ rfl v G' H' ⟨st.hh, st.gg, st.gh, st.fr⟩ av
    | own es => exact False.elim p
    | er C => exact False.elim p
  · cases r with
    | ok d' => exact False.elim z
    | own es' =>
      have e : es = es' := z
      subst e
      exact q2 _ rfl p us G' H' ⟨st.hh, st.gg, st.gh, st.fr⟩ h0 g0 h1 av
    | er C => exact False.elim z
  · cases r <;> exact False.elim p
  · cases r <;> exact False.elim p
  · cases r with
    | ok d' => exact False.elim p
    | own es' => exact False.elim p
    | er C' =>
      have e : C = C' := p
      subst e
      exact q3 _ rfl H' st
/-- a def keeps its contract -/
theorem fn_ok {x qual : Str} {st : Stmt} {f : Addr} {fd : FuncData} {N ps : List Str} {k : Nat} {S : List PyData → Res → Prop} (F : Fun K x qual st f fd) (Sc : FnScope N ps (defScope st)) (len : ∀ ds r, S ds r → ds.length = ps.length)
    (hbody : ∀ (cdv : Value) (A : Around) (outer : List PySem.Env) (s : Shared) (H : Hp) (E : XK), Room k (A.deeper (PyProof.Rows.envOfC qual (defScope st) s.heap.objs.size f cdv)) →
      ∃ t, PSs (cxOf (L2.CX Pg w) Pg w K mg base N qual (defScope st) f cdv A outer s H E) (defBody st) t ∧ ∀ ds r, S ds r → HT K E t (env0 N ds) (Post r)) : FnOk Pg w K mg base (L2.CX Pg w) (k + 1) f fd ps (spOf K S) := by
  refine F.okX Sc (fun vs H Q E h => ?_) (fun cdv A outer s H vs Q E hr h => ?_)
  · obtain ⟨G, ds, r, gh, a, hs, _⟩ := h
    rw [a.length]; exact len ds r hs
  · obtain ⟨t, h1, h2⟩ := hbody cdv A outer s H E hr
    exact ⟨t, h1, body_of h h2⟩
end
end PD

set_option Elab.async false
set_option linter.all false
set_option maxRecDepth 100000
set_option maxHeartbeats 1000000
/-! Derivations whose readings PD knows. -/
namespace PD
open PySem L2
section
variable {X : Cx} {a b c e : Expr} {ta tb tc te : TE} {pos : Pos}
theorem o_add : OpR X (binaryOp .Add) rAdd3 := OpR.or op_add (OpR.or op_add_str op_cat)
theorem o_sub : OpR X (binaryOp .Sub) rSubI := op_sub
theorem o_mul : OpR X (binaryOp .Mult) rMul2 := OpR.or op_mul op_rep
theorem o_mod : OpR X (binaryOp .Mod) rModI := op_mod
theorem o_div : OpR X (binaryOp .FloorDiv) rDivI := op_fdiv
theorem o_pow : OpR X (binaryOp .Pow) rPowI := op_pow
theorem o_eq (hu : X.A.units + 64 < cLine) : OpR X (compareOp .Eq) (rEq2 X.K) := OpR.or op_eq (op_eqD hu)
theorem o_ne (hu : X.A.units + 64 < cLine) : OpR X (compareOp .NotEq) (rNe2 X.K) := OpR.or op_ne (op_neD hu)
theorem o_lt : OpR X (compareOp .Lt) rLtI := op_lt
theorem o_le : OpR X (compareOp .LtE) rLeI := op_le
theorem o_gt : OpR X (compareOp .Gt) rGtI := op_gt
theorem o_ge : OpR X (compareOp .GtE) rGeI := op_ge
theorem o_isN : OpR X (compareOp .Is) rIsN := op_isN
theorem o_notN : OpR X (compareOp .IsNot) rNotN := op_notN
theorem c_len : CallR X (.builtin "len") (rLenV X.K) := call_len
theorem c_list : CallR X (.type "list") (rListV X.K) := call_list_of
theorem c_tuple : CallR X (.type "tuple") (rTupleV X.K) := call_tuple_of
theorem c_sum (hc : X.calm = true) : CallR X (.builtin "sum") (rSum X.K) := cr_sum hc
theorem c_max (hc : X.calm = true) : CallR X (.builtin "max") (rMax X.K) := cr_max hc
theorem c_all (hc : X.calm = true) : CallR X (.builtin "all") (rAll X.K) := cr_all hc
theorem c_max2 (hc : X.calm = true) : CallR X (.builtin "max") rMax2V := call_max2 hc
theorem c_min2 (hc : X.calm = true) : CallR X (.builtin "min") rMin2V := call_min2 hc
theorem c_int1 : CallR X (.type "int") rInt1V := call_int1
theorem c_isi : CallR X (.builtin "isinstance") (rIsi X.K) := call_isi
abbrev rStrI : List V → Hp → VK → Prop := fun xs H Q => ∃ i, xs = [.int i] ∧ i.natAbs.log2 < 1920 ∧ Q (.str (toString i)) H
theorem c_str : CallR X (.type "str") rStrI := call_str_int
theorem pass_call {E : XK} {E₁ : Value → Shared → Prop} (hs : X.stack = X.env :: X.outer) (hf : X.env.frame = some X.env.locals) (hex : X.ex = [])
    (hx : X.xe = fun e s' => wpAny (model X.prog X.w) X.A (leaving X.env e) (fun _ s'' => L2.CX X.prog X.w X.outer X.H_0 X.s_0 E e s'') E₁ s') : Passes (L2.CX X.prog X.w) X E :=
  passes_call (takes_of hs hf hex hx) (fun _ _ _ _ h => h)
/-- what a class of refusals must say -/
structure ExF (K : PySem.W.Frag) (mg : Str → Option Value) (x : Str) (C : Addr) : Prop where
  g : mg x = some (.ref C)
  k : PySem.W.keepIn K (.ref C) = true
  e : PySem.W.excIn K C [.type "ValueError", .type "Exception", .type "BaseException", .type "object"] "ValueError.__new__" = true
  s : PySem.W.subIn K (.ref C) (.type "BaseException") = some true
  t : PySem.W.typeIn K (.ref C) = some (.type "type")
theorem p_raise {E : XK} {E₁ : Value → Shared → Prop} {C : Addr} {x m : Str} {j : Nat} {p p2 pos pos2 : Pos} (F : ExF X.K X.mg x C) (hc : X.calm = true) (hs : X.stack = X.env :: X.outer) (hf : X.env.frame = some X.env.locals) (hex : X.ex = [])
    (hx : X.xe = fun e s' => wpAny (model X.prog X.w) X.A (leaving X.env e) (fun _ s'' => L2.CX X.prog X.w X.outer X.H_0 X.s_0 E e s'') E₁ s') (hg : Gl X x) (hdb : (x == ("__debug__" : Str)) = false := by decide) :
    PS X (.Raise (some (.Call (.Name x p) [.Constant (.str m) j p2] [] pos)) none pos2) (tRaiseC C E) :=
  ps_raise hc (takes_of hs hf hex hx) (pmk_own PySem.F.excBase_ValueError F.e F.g F.k (raises_own F.s F.t) hg hdb)
end

/-! ### more readings over data -/
section
variable {K : PySem.W.Frag} {Γ : Env} {ta tb te : TE} {E : XK} {P : Out → Prop}
/-- list(range(n)) -/
theorem eo_listRg {n : Int} (h : EvD K te Γ (.int n)) (hn : 0 ≤ n ∧ n ≤ 100000) : EvO K (tLstRg (tRg1 te)) Γ ((List.range n.toNat).map fun i : Nat => PyData.int (i : Int)) := fun H0 G H σ s gh Q q =>
  h H0 G H σ s gh _ fun v G1 H1 e1 a1 => by
    cases a1
    refine ⟨n, rfl, RgOk.of_le (by omega) (by omega) (by omega) (by omega), fun p hp => ?_⟩
    refine q p _ G1 _ (e1.trans (Ext.own e1.gh hp)) (e1.hh.free hp) (e1.gh.free hp) upd_same ?_
    have e : rgV 0 n = ((List.range n.toNat).map fun i : Nat => (i : Int)).map V.int := by
      unfold rgV
      rw [List.map_map, show (n - 0).toNat = n.toNat by omega]
      refine List.map_congr_left fun i _ => ?_
      show V.int (0 + (i : Int)) = V.int (i : Int)
      rw [Int.zero_add]
    have e2 : ((List.range n.toNat).map fun i : Nat => PyData.int (i : Int)) = ((List.range n.toNat).map fun i : Nat => (i : Int)).map PyData.int := by rw [List.map_map]; rfl
    rw [e, e2]
    exact atAll_ints _
theorem eo_listRg2 {lo n : Int} (h : EvD K ta Γ (.int lo)) (h2 : EvD K tb Γ (.int n)) (hl : 0 ≤ lo ∧ lo ≤ 100000) (hn : 0 ≤ n ∧ n ≤ 100000) : EvO K (tLstRg (tRg2 ta tb)) Γ ((List.range (n - lo).toNat).map fun i : Nat => PyData.int (lo + (i : Int))) := fun H0 G H σ s gh Q q =>
  h H0 G H σ s gh _ fun v G1 H1 e1 a1 => by
    cases a1
    refine h2 H0 G1 H1 σ (s.ext e1) e1.gh _ fun w G2 H2 e2 a2 => ?_
    cases a2
    have e12 := e1.trans e2
    refine ⟨lo, n, rfl, rfl, RgOk.of_le (by omega) (by omega) (by omega) (by omega), fun p hp => ?_⟩
    refine q p _ G2 _ (e12.trans (Ext.own e2.gh hp)) (e12.hh.free hp) (e2.gh.free hp) upd_same ?_
    have e : rgV lo n = ((List.range (n - lo).toNat).map fun i : Nat => lo + (i : Int)).map V.int := by
      unfold rgV
      rw [List.map_map]
      rfl
    have e2 : ((List.range (n - lo).toNat).map fun i : Nat => PyData.int (lo + (i : Int))) = ((List.range (n - lo).toNat).map fun i : Nat => lo + (i : Int)).map PyData.int := by rw [List.map_map]; rfl
    rw [e, e2]
    exact atAll_ints _
/-- xs.append(ys.pop(k)), both slots' own -/
theorem ht_appPop {i j : Nat} {ds es : List PyData} {k : Int} {d : PyData} (hij : i ≠ j) (hi : Γ[i]? = some (.ow ds)) (hj : Γ[j]? = some (.ow es)) (h : EvD K te Γ (.int k)) (k0 : 0 ≤ k) (hd : es[k.toNat]? = some d) (hz : ds.length < 100000) (hz2 : es.length < 100000)
    (p : P (.nx ((Γ.set j (.ow (es.eraseIdx k.toNat))).set i (.ow (ds ++ [d]))))) :
    HT K E (tDrop (tBM K "list" rAppend (tVar i) (tCons (tBM K "list" rPopAt (tVar j) (tCons te tNil)) tNil))) Γ P := fun H0 G H σ D s gh h0 m => by
  obtain ⟨q, vs, k1, k2, k3, k4, k5⟩ := s.ow i ds hi
  obtain ⟨r, ws, l1, l2, l3, l4, l5⟩ := s.ow j es hj
  have qr : q ≠ r := fun e => by subst e; exact hij (s.ne i j ds es q hi hj k1 l1)
  refine ⟨_, k1, .inl ⟨rfl, vs, SqL.of k2⟩, ?_⟩
  refine ⟨_, l1, .inl ⟨rfl, ws, SqL.of l2⟩, ?_⟩
  refine h H0 G H σ s gh _ fun v G1 H1 e1 a1 => ?_
  cases a1
  have r1 : H1 r = some (.lst ws) := e1.hh _ _ l2
  have q1 : H1 q = some (.lst vs) := e1.hh _ _ k2
  have gr : G1 r = none := e1.fr r l3 (by rw [l2]; exact fun z => nomatch z)
  have gq : G1 q = none := e1.fr q k3 (by rw [k2]; exact fun z => nomatch z)
  have kl : k.toNat < es.length := (List.getElem?_eq_some_iff.mp hd).1
  obtain ⟨v, hv, av⟩ := l5.get hd
  have hw : ws.length = es.length := l5.length
  refine ⟨r, ws, k, k.toNat, v, rfl, rfl, r1, by omega, by omega, ?_, hv, ?_⟩
  · exact seqIndex_of k0 (by rw [hw]; omega)
  · refine ⟨q, vs, v, rfl, rfl, by rw [upd_ne qr]; exact q1, by rw [k5.length]; exact Nat.lt_trans hz (by decide), ?_⟩
    have s1 := (s.ext e1).write (vs := ws.eraseIdx k.toNat) hj l1 ((l5.up e1.gg).erase k.toNat)
    have hi' : (Γ.set j (.ow (es.eraseIdx k.toNat)))[i]? = some (.ow ds) := by rw [List.getElem?_set_ne (Ne.symm hij)]; exact hi
    refine m.nx _ _ G1 _ p ⟨fun b x z => ?_, e1.gg, fun b x z => ?_, fun a z n => e1.fr a z (some_up h0 n)⟩ (s1.write hi' k1 ((k5.up e1.gg).snoc (av.up e1.gg)))
    · rw [upd_ne (ne_of_none z k4), upd_ne (ne_of_none z l4)]; exact e1.hh _ _ (h0 _ _ z)
    · rw [upd_ne (ne_of_none z gq), upd_ne (ne_of_none z gr)]; exact e1.gh _ _ z
/-- xs.index(y) of ints -/
theorem ev_index {ns : List Int} {y : Int} {j : Nat} (ha : EvD K ta Γ (.list (ns.map .int))) (hb : EvD K tb Γ (.int y)) (hj : ns[j]? = some y) (hn : ∀ m, m < j → ns[m]? ≠ some y) : EvD K (tBM K "list" (rIndex K) ta (tCons tb tNil)) Γ (.int (j : Int)) := fun H0 G H σ s gh Q q =>
  ha H0 G H σ s gh _ fun v G1 H1 e1 a1 => by
    cases a1 with
    | lst l1 l2 =>
      rename_i l us
      have e := l2.ints
      subst e
      refine ⟨.inl ⟨rfl, _, SqL.of (e1.gh _ _ l1)⟩, ?_⟩
      refine hb H0 G1 H1 σ (s.ext e1) e1.gh _ fun w G2 H2 e2 a2 => ?_
      cases a2
      refine ⟨l, ns.map V.int, .int y, j, .int y, rfl, rfl, SqL.of (e2.gh _ _ (e2.gg _ _ l1)), rfl, all_flat (K := K) (G := G), ?_, by simp [eqV], fun m z hm hz => ?_, q _ G2 H2 (e1.trans e2) (.int _)⟩
      · rw [List.getElem?_map, hj]; rfl
      · rw [List.getElem?_map] at hz
        obtain ⟨k, hk, rfl⟩ := Option.map_eq_some_iff.mp hz
        have : k ≠ y := fun e => hn m hm (by rw [hk, e])
        simpa [eqV] using this
/-- -i -/
theorem ev_neg {i : Int} (ha : EvD K ta Γ (.int i)) : EvD K (tUn (rU fun i => .int (-i)) ta) Γ (.int (-i)) := fun H0 G H σ s gh Q q => ha H0 G H σ s gh _ fun v G1 H1 e1 a1 => by
  cases a1
  exact ⟨i, rfl, q _ G1 H1 e1 (.int _)⟩
/-! ### what raises, on the way -/
theorem xa_head {ta : TE} {tr : TA} {C : Addr} (h : EvX K E ta Γ C) : ExA K E (tCons ta tr) Γ C := fun H0 G H σ s gh hE Q => h H0 G H σ s gh hE _
theorem xa_tail {ta : TE} {tr : TA} {C : Addr} {d : PyData} (h : EvD K ta Γ d) (hr : ExA K E tr Γ C) : ExA K E (tCons ta tr) Γ C := fun H0 G H σ s gh hE Q => h H0 G H σ s gh _ fun v G1 H1 e1 _ => hr H0 G1 H1 σ (s.ext e1) e1.gh (fun H' e => hE H' (e1.hh.trans e)) _
theorem ex_tup {ta : TA} {C : Addr} (h : ExA K E ta Γ C) : EvX K E (tTup ta) Γ C := fun H0 G H σ s gh hE Q => h H0 G H σ s gh hE _
theorem ex_opL {r : R2} {C : Addr} (h : EvX K E ta Γ C) : EvX K E (tOp r ta tb) Γ C := fun H0 G H σ s gh hE Q => h H0 G H σ s gh hE _
theorem ex_opR {r : R2} {C : Addr} {d : PyData} (h : EvD K ta Γ d) (h2 : EvX K E tb Γ C) : EvX K E (tOp r ta tb) Γ C := fun H0 G H σ s gh hE Q => h H0 G H σ s gh _ fun v G1 H1 e1 _ => h2 H0 G1 H1 σ (s.ext e1) e1.gh (fun H' e => hE H' (e1.hh.trans e)) _
theorem xt_test {C : Addr} (h : EvX K E te Γ C) : ExT K E (tTest te) Γ C := fun H0 G H σ s gh hE Q => h H0 G H σ s gh hE _
theorem xt_B {C : Addr} (h : EvX K E te Γ C) : ExT K E (tB te) Γ C := fun H0 G H σ s gh hE Q => h H0 G H σ s gh hE _
theorem xt_orL {t u : TT} {C : Addr} (h : ExT K E t Γ C) : ExT K E (tOr t u) Γ C := fun H0 G H σ s gh hE Q => h H0 G H σ s gh hE _
theorem xt_orR {t u : TT} {C : Addr} (h : EvT K t Γ false) (h2 : ExT K E u Γ C) : ExT K E (tOr t u) Γ C := fun H0 G H σ s gh hE Q => h H0 G H σ s gh _ fun G1 H1 e1 => h2 H0 G1 H1 σ (s.ext e1) e1.gh (fun H' e => hE H' (e1.hh.trans e)) Q
theorem ht_ifX {tt : TT} {t u : TS} {C : Addr} (h : ExT K E tt Γ C) (p : P (.ex C)) : HT K E (tIfS tt t u) Γ P := fun H0 G H σ D s gh h0 m => h H0 G H σ s gh (fun H' e => m.ex C H' p (h0.trans e)) _
/-- xs.append(e), e raises -/
theorem ht_appX {i : Nat} {ds : List PyData} {C : Addr} (hi : Γ[i]? = some (.ow ds)) (h : EvX K E te Γ C) (p : P (.ex C)) : HT K E (tDrop (tBM K "list" rAppend (tVar i) (tCons te tNil))) Γ P := fun H0 G H σ D s gh h0 m => by
  obtain ⟨q, vs, k1, k2, k3, k4, k5⟩ := s.ow i ds hi
  refine ⟨_, k1, .inl ⟨rfl, vs, SqL.of k2⟩, ?_⟩
  exact h H0 G H σ s gh (fun H' e => m.ex C H' p (h0.trans e)) _
end
/-! ### built-ins -/
theorem bt_len : bootBuiltins "len" = some (.builtin "len") := by decide +kernel
theorem bt_isinstance : bootBuiltins "isinstance" = some (.builtin "isinstance") := by decide +kernel
theorem bt_list : bootBuiltins "list" = some (.type "list") := by decide +kernel
theorem bt_tuple : bootBuiltins "tuple" = some (.type "tuple") := by decide +kernel
theorem bt_int : bootBuiltins "int" = some (.type "int") := by decide +kernel
theorem bt_bool : bootBuiltins "bool" = some (.type "bool") := by decide +kernel
theorem bt_str : bootBuiltins "str" = some (.type "str") := by decide +kernel
theorem bt_dict : bootBuiltins "dict" = some (.type "dict") := by decide +kernel
theorem bt_max : bootBuiltins "max" = some (.builtin "max") := by decide +kernel
theorem bt_min : bootBuiltins "min" = some (.builtin "min") := by decide +kernel
theorem bt_sum : bootBuiltins "sum" = some (.builtin "sum") := by decide +kernel
theorem bt_all : bootBuiltins "all" = some (.builtin "all") := by decide +kernel
theorem bt_sorted : bootBuiltins "sorted" = some (.builtin "sorted") := by decide +kernel
end PD
namespace PD
open PySem L2
/-- a def of the text as it stands behind the top -/
structure Def1 (K : PySem.W.Frag) (mg : Str → Option Value) (name : Str) (st : Stmt) (ps : List Str) : Type where
  f : Addr
  fd : FuncData
  F : Fun K name name st f fd
  m : mg name = some (.ref f)
  b : Binds K fd ps []
theorem law_sp {K : PySem.W.Frag} {S : List PyData → Res → Prop} {H : Hp} {a : Addr} {ns : List Int} (hS : SqL K H a (ns.map V.int)) (h : S [scr ns] (.ok (.bool true))) :
    spOf K S [.ref a] H (fun v _ => v = .bl true) fun _ _ _ => False :=
  ⟨H, [scr ns], .ok (.bool true), Same.refl H, .cons (At.ofScr hS) .nil, h, fun d z v G' H' e a => by cases z; cases a; rfl, fun _ z => (nomatch z), fun _ z => (nomatch z)⟩
theorem no_cx {P : Program} {w : World} {H : Hp} {s : Shared} {e : Value} {s' : Shared} (h : L2.CX P w [] H s (fun _ _ _ => False) e s') : False := by
  obtain ⟨_, _, _, _, _, _, _, _, _, _, _, _, z⟩ := h
  exact z
end PD

set_option Elab.async false
set_option linter.all false
set_option maxRecDepth 100000
set_option maxHeartbeats 1000000
/-! try, and what is asked of a caught error. -/
namespace PD
open PySem L2
def tTry (K : PySem.W.Frag) (c : Value) (tb : WX → TS) (ts : Addr → Value → Option Addr → TS) (Wout : WX) : TS := fun D σ H => tb (wOnly K c ts Wout D) D σ H
def tTryAs (K : PySem.W.Frag) (c : Value) (i : Nat) (tb : WX → TS) (ts : Addr → Value → Option Addr → TS) (Wout : WX) : TS := fun D σ H => tb (wAs K c i ts Wout D) D σ H
def tTryMany (K : PySem.W.Frag) (tb : WX → TS) (l : List (Value × (Addr → Value → Option Addr → TS))) (Wout : WX) : TS := fun D σ H => tb (wMany K Wout D l) D σ H
section
variable {X : Cx} {x : Str} {c : Value} {body suite : List Stmt} {b₀ : Stmt} {np pos pos' : Pos} {tb : WX → TS} {ts : Addr → Value → Option Addr → TS} {Wout : WX}
theorem p_try (hs : X.stack = X.env :: X.outer) (hf : X.env.frame = some X.env.locals) (hc : Names X x c) (tk : Takes X Wout)
    (hb : ∀ (W : WX) (pn : List (Addr × Obj)) (xe : Value → Shared → Prop), Takes (X.tr pn xe) W → PassesOwn (model X.prog X.w) X.A X.env xe → PSs (X.tr pn xe) body (tb W))
    (hsu : ∀ (a : Addr) (oe : Obj) (cls : Value) (d : Option Addr) (pn : List (Addr × Obj)), Zc cls d oe → (∃ vs, oe.data = .fields vs) → PSs (X.suite a ((a, oe) :: pn)) (b₀ :: suite) (ts a cls d)) :
    PS X (.Try body [.ExceptHandler (some (.Name x np)) none (b₀ :: suite) pos'] [] [] pos) (tTry X.K c tb ts Wout) := ps_try_only hs hf hc tk hb hsu
theorem p_try_as {i : Nat} {n : Str} (hs : X.stack = X.env :: X.outer) (hf : X.env.frame = some X.env.locals) (hN : X.N.Nodup) (hi : X.N[i]? = some n) (hln : X.env.kindOf n = some .local) (hc : Names X x c) (tk : Takes X Wout)
    (hb : ∀ (W : WX) (pn : List (Addr × Obj)) (xe : Value → Shared → Prop), Takes (X.tr pn xe) W → PassesOwn (model X.prog X.w) X.A X.env xe → PSs (X.tr pn xe) body (tb W))
    (hsu : ∀ (a : Addr) (oe : Obj) (cls : Value) (d : Option Addr) (pn : List (Addr × Obj)), Zc cls d oe → (∃ vs, oe.data = .fields vs) → PSs (X.suite a ((a, oe) :: pn)) (b₀ :: suite) (ts a cls d)) :
    PS X (.Try body [.ExceptHandler (some (.Name x np)) (some n) (b₀ :: suite) pos'] [] [] pos) (tTryAs X.K c i tb ts Wout) := ps_try_as hs hf hN hi hln hc tk hb hsu
theorem p_try_many {h₀ : ExceptHandler} {hds : List ExceptHandler} {l : List (Value × (Addr → Value → Option Addr → TS))} (hs : X.stack = X.env :: X.outer) (hf : X.env.frame = some X.env.locals) (tk : Takes X Wout)
    (hb : ∀ (W : WX) (pn : List (Addr × Obj)) (xe : Value → Shared → Prop), Takes (X.tr pn xe) W → PassesOwn (model X.prog X.w) X.A X.env xe → PSs (X.tr pn xe) body (tb W))
    (hh : HdsOk X (h₀ :: hds) l) : PS X (.Try body (h₀ :: hds) [] [] pos) (tTryMany X.K tb l Wout) := ps_try_many hs hf tk hb hh
end
/-- what is told of the errors of the class at C: by except clauses, by isinstance -/
structure TF (K : PySem.W.Frag) (C : Addr) (xs ys : List (Value × Bool)) : Prop where
  x : ExcC K C
  e : ∀ p ∈ xs, PySem.W.exmOne K (.ref C) p.1 = some p.2
  k : ∀ p ∈ ys, PySem.W.kitOne K (.ref C) p.1 = some p.2
theorem tf_nil {P : Value × Bool → Prop} : ∀ p ∈ ([] : List (Value × Bool)), P p := fun _ h => nomatch h
theorem tf_cons {P : Value × Bool → Prop} {x : Value × Bool} {xs : List (Value × Bool)} (h : P x) (r : ∀ p ∈ xs, P p) : ∀ p ∈ x :: xs, P p := fun p hp => by
  rcases List.mem_cons.mp hp with e | e
  · rw [e]; exact h
  · exact r p e
/-- isinstance(e, c), e the error that the suite holds, c one class -/
def rIsE1 (K : PySem.W.Frag) (cls : Value) (d : Option Addr) (a : Addr) : List V → Hp → VK → Prop := fun xs H Q => ∃ (D : Addr) (c : V) (cv : Value) (b : Bool), cls = .ref D ∧ d = none ∧ ExcC K D ∧ xs = [.ref a, c] ∧ ClsV c cv ∧ PySem.W.kitOne K (.ref D) cv = some b ∧ Q (.bl b) H
theorem c_isE1 {X : Cx} {a : Addr} {cls : Value} {d : Option Addr} {oe : Obj} {pn : List (Addr × Obj)} (hz : Zc cls d oe) (hf : ∃ vs, oe.data = .fields vs) : CallR (X.suite a ((a, oe) :: pn)) (.builtin "isinstance") (rIsE1 X.K cls d a) := by
  intro pins s σ H xs us Q I r h
  obtain ⟨D, c, cv, b, rfl, rfl, hx, rfl, hcv, e, q⟩ := h
  exact call_isE hx hz hf pins s σ H _ us Q I r ⟨c, cv, b, rfl, fun u ru => hcv.eq ru, e, q⟩
/-- .. a tuple of classes -/
def rIsET (K : PySem.W.Frag) (cls : Value) (d : Option Addr) (a : Addr) : List V → Hp → VK → Prop := fun xs H Q => ∃ (D tp : Addr) (cs : List V) (ws : List Value) (b : Bool), cls = .ref D ∧ d = none ∧ ExcC K D ∧ xs = [.ref a, .ref tp] ∧ H tp = some (.tup cs) ∧ Paired ClsV cs ws ∧ PySem.W.kitAny K (.ref D) ws = some b ∧ Q (.bl b) H
theorem c_isET {X : Cx} {a : Addr} {cls : Value} {d : Option Addr} {oe : Obj} {pn : List (Addr × Obj)} (hz : Zc cls d oe) (hf : ∃ vs, oe.data = .fields vs) : CallR (X.suite a ((a, oe) :: pn)) (.builtin "isinstance") (rIsET X.K cls d a) := by
  intro pins s σ H xs us Q I r h
  obtain ⟨D, tp, cs, ws, b, rfl, rfl, C, rfl, hT, k, e, q⟩ := h
  obtain ⟨u1, u2, rfl, r1, r2⟩ := vals2 r
  cases (show u1 = Value.ref a from r1)
  cases (show u2 = Value.ref tp from r2)
  obtain ⟨hget, _⟩ := I.pin (a, oe) (List.mem_append.mpr (.inl List.mem_cons_self))
  obtain ⟨vs, hv⟩ := hf
  have J : PySem.W.InstAt s.heap a oe D none := by
    obtain ⟨oc, od, oda, osl⟩ := oe
    obtain ⟨h1, h2⟩ := hz
    dsimp only at h1 h2 hv
    subst h1 h2 hv
    exact ⟨hget, rfl, rfl, trivial⟩
  obtain ⟨_, its, rv, o, h1, h2, n, h3⟩ := (show ObjOk X.prog X.w H s.heap tp (.tup cs) from I.hok tp _ hT)
  have e3 := ClsV.all k rv
  subst e3
  obtain ⟨oc, od, dt, sl⟩ := o
  simp only at h2 h3
  subst h2 h3
  exact PySem.W.kia_tup (PySem.W.handS_kitx_exc C.hg C.hk C.hs C.hd C.ha C.hn C.ht C.hm) I.kIn J h1 e (fun z => nomatch z) fun tk => ⟨.bl b, H, I.kept (t' := tk) fun _ _ z => z, rfl, q⟩
section
variable {K : PySem.W.Frag} {E : XK} {Γ : Env} {P : Out → Prop} {ta : TA} {S : List PyData → Res → Prop} {ds : List PyData} {c : Value} {ts : Addr → Value → Option Addr → TS} {Wout : WX} {i : Nat}
/-- the body calls one function, and that comes back -/
theorem ht_tryD {d : PyData} (h : EvA K ta Γ ds) (hs : S ds (.ok d)) (p : P (.nx Γ)) : HT K E (tTry K c (fun W => tDrop (tCallS (spOf K S) (WE W) ta)) ts Wout) Γ P := fun H0 G H σ D s gh h0 m =>
  h H0 G H σ s gh _ fun vs G1 H1 e1 a1 => ⟨G1, ds, .ok d, e1.gh, a1, hs, fun d' z v G' H' e a => by
    have e2 := e1.trans e
    exact m.nx _ _ G' H' p (e2.step h0) (s.ext e2), fun es z => (nomatch z), fun C z => (nomatch z)⟩
/-- .. and that raises what the clause takes -/
theorem ht_tryX {C : Addr} (h : EvA K ta Γ ds) (hs : S ds (.er C)) (hm : PySem.W.exmOne K (.ref C) c = some true) (hsu : ∀ a, HT K E (ts a (.ref C) none) Γ P) : HT K E (tTry K c (fun W => tDrop (tCallS (spOf K S) (WE W) ta)) ts Wout) Γ P := fun H0 G H σ D s gh h0 m =>
  h H0 G H σ s gh _ fun vs G1 H1 e1 a1 => ⟨G1, ds, .er C, e1.gh, a1, hs, fun d z => (nomatch z), fun es z => (nomatch z), fun C' z H' e => by
    cases z
    refine ⟨true, hm, fun _ a ha => ?_, fun z => nomatch z⟩
    have e2 := e1.trans (Ext.grow e1.gh e)
    exact hsu a H0 G1 H' σ D (s.ext e2) e2.gh (h0.trans e2.hh) (m.step (e2.step h0))⟩
def TryEnd (i : Nat) (P : Out → Prop) : Out → Prop
  | .nx Γ' => P (.nx (Γ'.set i .no))
  | .bk Γ' => P (.bk (Γ'.set i .no))
  | .ct Γ' => P (.ct (Γ'.set i .no))
  | o => P o
theorem ht_tryAsX {C : Addr} (h : EvA K ta Γ ds) (hs : S ds (.er C)) (hm : PySem.W.exmOne K (.ref C) c = some true) (hsu : ∀ a, HT K E (ts a (.ref C) none) (Γ.set i (.rf a)) (TryEnd i P)) : HT K E (tTryAs K c i (fun W => tDrop (tCallS (spOf K S) (WE W) ta)) ts Wout) Γ P := fun H0 G H σ D s gh h0 m =>
  h H0 G H σ s gh _ fun vs G1 H1 e1 a1 => ⟨G1, ds, .er C, e1.gh, a1, hs, fun d z => (nomatch z), fun es z => (nomatch z), fun C' z H' e => by
    cases z
    refine ⟨true, hm, fun _ a ha => ?_, fun z => nomatch z⟩
    have e2 := e1.trans (Ext.grow e1.gh e)
    have m2 := m.step (e2.step h0)
    exact hsu a H0 G1 H' _ _ ((s.ext e2).setR) e2.gh (h0.trans e2.hh) ⟨fun Γ' σ' G' H' p q s' => m2.nx _ _ G' H' p q s'.setN, fun d v G' H' p q => m2.rt d v G' H' p q, fun ds q us G' H' p z => m2.ro ds q us G' H' p z,
      fun Γ' σ' G' H' p q s' => m2.bk _ _ G' H' p q s'.setN, fun Γ' σ' G' H' p q s' => m2.ct _ _ G' H' p q s'.setN, fun C H' p q => m2.ex C H' p q⟩⟩
/-- the answer of isinstance(e, c) -/
theorem ev_isE1 {D a : Addr} {n : V} {cv : Value} {b : Bool} (hi : Γ[i]? = some (.rf a)) (C : ExcC K D) (hn : ClsV n cv) (hk : PySem.W.kitOne K (.ref D) cv = some b) : EvD K (tCB (rIsE1 K (.ref D) none a) (tCons (tVar i) (tCons (tC n) tNil))) Γ (.bool b) := fun H0 G H σ s gh Q q =>
  ⟨_, s.rf i a hi, D, n, cv, b, rfl, rfl, C, rfl, hn, hk, q _ G H (Ext.refl gh) (.bl b)⟩
/-- classes as constants -/
def cA : List Addr → TA
  | [] => tNil
  | a :: r => tCons (tC (.ref a)) (cA r)
theorem cA_run {σ : St} {H : Hp} : ∀ (cs : List Addr) (Q : List V → Hp → Prop), Q (cs.map V.ref) H → cA cs σ H Q
  | [], Q, q => q
  | a :: r, Q, q => cA_run (σ := σ) r (fun vs H1 => Q (V.ref a :: vs) H1) q
theorem ev_isET {D a : Addr} {b : Bool} (cs : List Addr) (hi : Γ[i]? = some (.rf a)) (C : ExcC K D) (hl : cs.length ≤ 100000) (hk : PySem.W.kitAny K (.ref D) (cs.map Value.ref) = some b) : EvD K (tCB (rIsET K (.ref D) none a) (tCons (tVar i) (tCons (tTup (cA cs)) tNil))) Γ (.bool b) := fun H0 G H σ s gh Q q => by
  refine ⟨_, s.rf i a hi, ?_⟩
  refine cA_run cs _ ?_
  refine ⟨by rw [List.length_map]; exact Nat.le_trans hl (by decide), fun p hp => ?_⟩
  have e := Ext.own gh (o := .tup (cs.map V.ref)) hp
  refine ⟨D, p, cs.map V.ref, cs.map Value.ref, b, rfl, rfl, C, rfl, upd_same, ?_, hk, q _ _ _ e (.bl b)⟩
  clear hk hl
  induction cs with
  | nil => exact .nil
  | cons c r ih => exact .cons (.own c) (ih (Ext.own gh hp))
theorem any_no {D : Value} {c : Addr} {cs : List Addr} {r : Bool} (h : PySem.W.kitOne K D (.ref c) = some false) (hr : PySem.W.kitAny K D (cs.map Value.ref) = some r) : PySem.W.kitAny K D ((c :: cs).map Value.ref) = some r := by
  show PySem.W.kitAny K D (Value.ref c :: cs.map Value.ref) = some r
  unfold PySem.W.kitAny
  rw [h]
  exact hr
theorem any_nil {D : Value} : PySem.W.kitAny K D (([] : List Addr).map Value.ref) = some false := rfl
end
theorem bt_ValueError : bootBuiltins "ValueError" = some (.type "ValueError") := by decide +kernel
end PD
namespace PD
open PySem L2
theorem cls_some {K : PySem.W.Frag} {c : Addr} (hd : PySem.W.hasDictIn K c = true) (ht : PySem.W.typeIn K (.ref c) = some (.type "type")) : ((PySem.W.clsIn K c).isSome && PySem.W.typeIn K (.ref c) == some (.type "type")) = true := by
  obtain ⟨cd, hc, _⟩ := PySem.W.any_some hd
  rw [hc, ht] <;> rfl
theorem kit_own {K : PySem.W.Frag} {C c : Addr} {b : Bool} (hs : PySem.W.subIn K (.ref C) (.ref C) = some true) (h : PySem.W.subIn K (.ref C) (.ref c) = some b) (hd : PySem.W.hasDictIn K c = true) (ht : PySem.W.typeIn K (.ref c) = some (.type "type")) :
    PySem.W.kitOne K (.ref C) (.ref c) = some b := by
  have e2 : PySem.W.kitCls K (.ref C) (.ref c) = some b := by
    show (if ((PySem.W.clsIn K c).isSome && PySem.W.typeIn K (.ref c) == some (.type "type")) = true then PySem.W.subIn K (.ref C) (.ref c) else none) = some b
    rw [if_pos (cls_some hd ht)]
    exact h
  by_cases z : (Value.ref C == Value.ref c) = true
  · have e : C = c := Value.ref.inj (beq_iff_eq.mp z)
    subst e
    rw [hs] at h
    cases h
    unfold PySem.W.kitOne
    rw [if_pos z]
  · unfold PySem.W.kitOne
    rw [if_neg z]
    exact e2
theorem kit_ve {K : PySem.W.Frag} {C : Addr} (h : PySem.W.subIn K (.ref C) (.type "ValueError") = some true) : PySem.W.kitOne K (.ref C) (.type "ValueError") = some true := by
  have z : ¬ (Value.ref C == Value.type "ValueError") = true := fun z => nomatch (beq_iff_eq.mp z)
  have m : PySem.W.kitMeta "ValueError" = true := by decide +kernel
  unfold PySem.W.kitOne
  rw [if_neg z]
  show (if PySem.W.kitMeta "ValueError" = true then PySem.W.subIn K (.ref C) (.type "ValueError") else none) = some true
  rw [if_pos m]
  exact h
end PD

set_option Elab.async false
set_option linter.all false
set_option maxRecDepth 100000
set_option maxHeartbeats 1000000
/-! Texts. -/
namespace PD
open PySem L2
/-- a number's text -/
abbrev sI (i : Int) : Str := Str.ofString (toString i)
theorem sI_len {i : Int} {k : Nat} (hk : 0 < k) (h : i.natAbs < 10 ^ k) : (sI i).length ≤ k + 1 := by
  have e := int_text_length_le10 hk h
  show (Str.ofString (toString i)).length ≤ k + 1
  rw [ofString_length]
  exact e
theorem log_lt {i : Int} (h : i.natAbs < 10 ^ 100) : i.natAbs.log2 < 1920 := by
  by_cases z : i.natAbs = 0
  · rw [z]; decide
  · exact (Nat.log2_lt z).mpr (Nat.lt_of_lt_of_le h (by decide +kernel))
def tJoin (ts : List TE) : TE := fun σ H Q => tJs ts Str.empty σ H fun out H1 => Q (.str out) H1
def rJoin (K : PySem.W.Frag) : V → List V → Hp → VK → Prop := fun x xs H Q => ∃ a p, ∃ ys : List Str, x = .str a ∧ xs = [.ref p] ∧ (SqL K H p (ys.map V.str) ∨ SqT K H p (ys.map V.str)) ∧
    (ys.map (·.length)).sum + ys.length * a.length ≤ 16777216 ∧ Q (.str (Txt.join a ys)) H
abbrev tJoinL (K : PySem.W.Frag) (to te : TE) : TE := tBM K "str" (rJoin K) to (tCons te tNil)
def rSplit : V → List V → Hp → VK → Prop := fun x xs H Q => ∃ a b, x = .str a ∧ xs = [.str b] ∧ (b.length == 0) = false ∧ a.length + 2 ≤ sizeLine ∧ rNewStrs (Txt.split a b) H Q
abbrev tSplit (K : PySem.W.Frag) (to te : TE) : TE := tBM K "str" rSplit to (tCons te tNil)
section
variable {X : Cx} {v1 v2 e o : Expr} {rest : List Expr} {ts : List TE} {pos apos cpos : Pos} {to te : TE}
theorem p_joined (h : PJ X (v1 :: v2 :: rest) ts) : PE X (.JoinedStr (v1 :: v2 :: rest) pos) (tJoin ts) := pe_joined h
theorem m_join : MtR X "str.join" (rJoin X.K) := mt_join
theorem m_split : MtR X "str.split" rSplit := mt_split
end
section
variable {K : PySem.W.Frag} {Γ : Env} {ta tb te : TE} {ts : List TE}
def EvJ (K : PySem.W.Frag) (ts : List TE) (Γ : Env) (acc out : Str) : Prop := ∀ (H0 G H : Hp) (σ : St), Sat K H0 G H σ Γ → Same G H → ∀ Q : Str → Hp → Prop, (∀ G' H', Ext G H G' H' → Q out H') → tJs ts acc σ H Q
theorem ej_nil {acc : Str} : EvJ K [] Γ acc acc := fun H0 G H σ s gh Q q => q G H (Ext.refl gh)
theorem ej_cons {acc y out : Str} (h : EvD K te Γ (.str y)) (hl : acc.length + y.length ≤ 100000) (r : EvJ K ts Γ (acc ++ y) out) : EvJ K (te :: ts) Γ acc out := fun H0 G H σ s gh Q q => h H0 G H σ s gh _ fun v G1 H1 e1 a1 => by
  cases a1
  refine ⟨y, rfl, ?_, r H0 G1 H1 σ (s.ext e1) e1.gh Q fun G' H' e => q G' H' (e1.trans e)⟩
  rw [Str.length_append]
  exact Nat.le_trans hl (by decide)
theorem ev_joined {out : Str} (h : EvJ K ts Γ Str.empty out) : EvD K (tJoin ts) Γ (.str out) := fun H0 G H σ s gh Q q => h H0 G H σ s gh _ fun G' H' e => q _ G' H' e (.str _)
theorem ev_fmt {i : Int} (h : EvD K te Γ (.int i)) (hl : i.natAbs < 10 ^ 100) : EvD K (tFmt te) Γ (.str (sI i)) := fun H0 G H σ s gh Q q => h H0 G H σ s gh _ fun v G1 H1 e1 a1 => by
  cases a1
  exact .inr ⟨i, rfl, log_lt hl, q _ G1 H1 e1 (.str _)⟩
theorem ev_strI {i : Int} (h : EvD K te Γ (.int i)) (hl : i.natAbs < 10 ^ 100) : EvD K (tCB rStrI (tCons te tNil)) Γ (.str (sI i)) := ev_cb (ea_cons h ea_nil) fun G H vs gh a Q q => by
  cases a with
  | cons a1 a2 =>
    cases a2
    cases a1
    exact ⟨i, rfl, log_lt hl, q _ G H (Ext.refl gh) (.str _)⟩
theorem ev_join {sep : Str} {ys : List Str} (ha : EvD K ta Γ (.str sep)) (hb : EvD K tb Γ (.list (ys.map .str))) (hl : (ys.map (·.length)).sum + ys.length * sep.length ≤ 16777216) : EvD K (tJoinL K ta tb) Γ (.str (Txt.join sep ys)) := fun H0 G H σ s gh Q q =>
  ha H0 G H σ s gh _ fun v G1 H1 e1 a1 => by
    cases a1
    refine ⟨rfl, ?_⟩
    refine hb H0 G1 H1 σ (s.ext e1) e1.gh _ fun w G2 H2 e2 a2 => ?_
    cases a2 with
    | lst l1 l2 =>
      have e := l2.strs
      subst e
      exact ⟨sep, _, ys, rfl, rfl, .inl (SqL.of (e2.gh _ _ l1)), hl, q _ G2 H2 (e1.trans e2) (.str _)⟩
theorem eo_split {a b : Str} (ha : EvD K ta Γ (.str a)) (hb : EvD K tb Γ (.str b)) (h0 : (b.length == 0) = false) (hl : a.length ≤ 100000) : EvO K (tSplit K ta tb) Γ ((Txt.split a b).map .str) := fun H0 G H σ s gh Q q =>
  ha H0 G H σ s gh _ fun v G1 H1 e1 a1 => by
    cases a1
    refine ⟨rfl, ?_⟩
    refine hb H0 G1 H1 σ (s.ext e1) e1.gh _ fun w G2 H2 e2 a2 => ?_
    cases a2
    refine ⟨a, b, rfl, rfl, h0, Nat.le_trans (Nat.add_le_add_right hl 2) (by decide), fun p hp => ?_⟩
    have e12 := e1.trans e2
    exact q p _ G2 _ (e12.trans (Ext.own e2.gh hp)) (e12.hh.free hp) (e2.gh.free hp) upd_same (atAll_strs _)
theorem sum_len {ys : List Str} {k : Nat} (h : ∀ y ∈ ys, y.length ≤ k) : (ys.map (·.length)).sum ≤ ys.length * k := by
  induction ys with
  | nil => simp
  | cons y ys ih =>
    have h1 := h y List.mem_cons_self
    have h2 := ih fun z hz => h z (List.mem_cons_of_mem _ hz)
    rw [List.map_cons, List.sum_cons, List.length_cons, Nat.add_mul, Nat.one_mul]
    omega
end
end PD

set_option Elab.async false
set_option linter.all false
set_option maxRecDepth 100000
set_option maxHeartbeats 1000000
/-! Signs of texts: loops, slices, int(text). -/
namespace PD
open PySem L2 TL
abbrev sg (c : Nat) : PyData := .str ⟨#[c]⟩
def rInSign : R2 := fun x y H Q => ∃ (c : Nat) (z : Str), x = .str ⟨#[c]⟩ ∧ y = .str z ∧ Q (.bl (decide (c ∈ z.cps.toList))) H
def rNotSign : R2 := fun x y H Q => ∃ (c : Nat) (z : Str), x = .str ⟨#[c]⟩ ∧ y = .str z ∧ Q (.bl (!decide (c ∈ z.cps.toList))) H
theorem o_inSign {X : Cx} : OpR X (compareOp .In) rInSign := op_in_sign
theorem o_notSign {X : Cx} : OpR X (compareOp .NotIn) rNotSign := op_notIn_sign
def rIntS : List V → Hp → VK → Prop := fun xs H Q => ∃ a n, xs = [.str a] ∧ PySem.intText? a = some n ∧ a.length ≤ 640 ∧ Q (.int n) H
theorem c_intS {X : Cx} : CallR X (.type "int") rIntS := call_int_str
section
variable {K : PySem.W.Frag} {E : XK} {Γ : Env} {P : Out → Prop} {ta tb te te2 : TE} {t : TS}
theorem ev_inSign {c : Nat} {z : Str} (ha : EvD K ta Γ (sg c)) (hb : EvD K tb Γ (.str z)) : EvD K (tOp rInSign ta tb) Γ (.bool (decide (c ∈ tl z))) := ev_op ha hb fun G H x y gh a b Q q => by
  cases a; cases b
  exact ⟨c, z, rfl, rfl, q _ G H (Ext.refl gh) (.bl _)⟩
theorem ev_notSign {c : Nat} {z : Str} (ha : EvD K ta Γ (sg c)) (hb : EvD K tb Γ (.str z)) : EvD K (tOp rNotSign ta tb) Γ (.bool (!decide (c ∈ tl z))) := ev_op ha hb fun G H x y gh a b Q q => by
  cases a; cases b
  exact ⟨c, z, rfl, rfl, q _ G H (Ext.refl gh) (.bl _)⟩
theorem ev_intS {a : Str} {n : Int} (ha : EvD K ta Γ (.str a)) (h : PySem.intText? a = some n) (hl : a.length ≤ 640) : EvD K (tCB rIntS (tCons ta tNil)) Γ (.int n) := ev_cb (ea_cons ha ea_nil) fun G H vs gh b Q q => by
  cases b with
  | cons a1 a2 =>
    cases a2
    cases a1
    exact ⟨a, n, rfl, h, hl, q _ G H (Ext.refl gh) (.int _)⟩
theorem ev_cutS {tl' th : TO} {x : Str} {lo hi : Option Int} (h : EvD K te Γ (.str x)) (h1 : EvP K tl' Γ lo) (h2 : EvP K th Γ hi) (hz : x.length ≤ 100000) : EvD K (tSl rSlS te tl' th) Γ (.str (cutS x lo hi)) := fun H0 G H σ s gh Q q =>
  h H0 G H σ s gh _ fun v G1 H1 e1 a1 => h1 H0 G1 H1 σ (s.ext e1) e1.gh _ fun G2 H2 e2 => h2 H0 G2 H2 σ (s.ext (e1.trans e2)) e2.gh _ fun G3 H3 e3 => by
    cases a1
    exact ⟨x, rfl, Nat.le_trans hz (by decide), q _ G3 H3 ((e1.trans e2).trans e3) (.str _)⟩
theorem tl_cut_take (x : Str) (k : Nat) : tl (cutS x none (some (k : Int))) = (tl x).take k := by
  have e1 : _root_.HT.sIx x.length 0 none = 0 := rfl
  show (List.toArray _).toList = _
  rw [e1, _root_.HT.sIx_nat, List.drop_zero, Nat.sub_zero]
  show (x.cps.toList.take (min k x.length)).toArray.toList = x.cps.toList.take k
  have l : x.length = x.cps.toList.length := by show x.cps.size = _; simp
  rw [l]
  exact List.take_eq_take_min.symm
theorem tl_cut_drop (x : Str) (k : Nat) : tl (cutS x (some (k : Int)) none) = (tl x).drop k := by
  have e1 : _root_.HT.sIx x.length x.length none = x.length := rfl
  show (List.toArray _).toList = _
  rw [e1, _root_.HT.sIx_nat]
  show ((x.cps.toList.drop (min k x.length)).take (x.length - min k x.length)).toArray.toList = x.cps.toList.drop k
  have l : x.length = x.cps.toList.length := by show x.cps.size = _; simp
  rw [l]
  by_cases h : k ≤ x.cps.toList.length
  · rw [Nat.min_eq_left h]
    show List.take _ _ = _
    rw [List.take_of_length_le (by rw [List.length_drop]; omega)]
  · rw [Nat.min_eq_right (by omega), List.drop_eq_nil_of_le (show x.cps.toList.length ≤ k by omega), List.drop_length]
    simp
/-- [f c for c in a text] -/
theorem eo_mapS {j : Nat} (x : Str) (f : Nat → PyData) (h : EvD K te Γ (.str x)) (hz : x.length ≤ 100000) (he : ∀ c ∈ tl x, EvD K te2 ((wipeE Γ [j]).set j (.da (sg c))) (f c)) : EvO K (tLc (iStr te) (gName j) tYes te2 [j]) Γ ((tl x).map f) := fun H0 G H σ s gh Q q =>
  h H0 G H σ s gh _ fun v G1 H1 e1 a1 => by
    cases a1
    refine ⟨x, rfl, fun D hD => ?_⟩
    have lx : (tl x).length = x.cps.size := by show x.cps.toList.length = _; simp
    refine ⟨fun i m H' => m = x.cps.size - i ∧ i ≤ x.cps.size ∧ Cw K G1 H1 D (((tl x).take i).map f) H', ⟨x.cps.size, by simp, Nat.zero_le _, cw_start e1.gh hD⟩, ?_⟩
    rintro i m H' ⟨rfl, hi, p⟩
    by_cases hlt : i < x.cps.size
    · refine .inr ⟨hlt, Cw K G1 H1 D (((tl x).take (i + 1)).map f), fun H2 p2 => ⟨x.cps.size - (i + 1), by omega, rfl, hlt, p2⟩, fun v H2 y => ?_⟩
      obtain ⟨e, c, hc, rfl⟩ := y
      subst e
      have hx : (tl x)[i]? = some c := by show x.cps.toList[i]? = _; rw [Array.getElem?_toList]; exact hc
      have hm : c ∈ tl x := List.mem_of_getElem? hx
      refine cw_turn (Γ := Γ) (vs := [j]) (d := sg c) (e := f c) (b := true) hD (s.ext e1) p ?_ (.str _) tg_name et_yes (fun _ => he c hm) (fun _ H3 c3 => ?_) (fun z => nomatch z)
      · rw [List.length_map, List.length_take]
        exact Nat.le_trans (Nat.min_le_left _ _) (Nat.le_trans (Nat.le_of_lt hlt) hz)
      · rw [take_more hx, List.map_append]; exact c3
    · have e : i = x.cps.size := by omega
      subst e
      refine .inl ⟨Nat.le_refl _, ?_⟩
      obtain ⟨G', acc, ex, hd, gd, ha⟩ := p
      rw [List.take_of_length_le (by rw [lx]; exact Nat.le_refl _)] at ha
      exact q D acc G' H' (e1.trans ex) (e1.hh.free hD) gd hd ha
/-- for c in a text -/
theorem ht_forS {j : Nat} (x : Str) (I : Nat → Env → Prop) (h : EvD K te Γ (.str x)) (h0 : I 0 Γ)
    (hs : ∀ (i : Nat) (c : Nat) (Γ' : Env), (tl x)[i]? = some c → I i Γ' → HT K E t (Γ'.set j (.da (sg c))) (Turn1 I i P)) (hd : ∀ Γ', I (tl x).length Γ' → P (.nx Γ')) : HT K E (tFor (iStr te) (gName j) t) Γ P :=
  fun H0 G H σ D s gh hh m => h H0 G H σ s gh _ fun v G1 H1 e1 a1 => by
    cases a1
    have m1 := m.step (e1.step hh)
    have lx : (tl x).length = x.cps.size := by show x.cps.toList.length = _; simp
    refine ⟨x, rfl, fun i m σ H' => m = x.cps.size - i ∧ i ≤ x.cps.size ∧ Pw K H0 G1 I i σ H', ⟨x.cps.size, by simp, Nat.zero_le _, G1, Γ, (Ext.refl e1.gh).step (hh.trans e1.hh), s.ext e1, h0⟩, ?_⟩
    rintro i n σ' H' ⟨rfl, hi, G', Γ', st, s', ii⟩
    by_cases hlt : i < x.cps.size
    · refine .inr ⟨hlt, Pw K H0 G1 I (i + 1), fun σ2 H2 p2 => ⟨x.cps.size - (i + 1), by omega, rfl, hlt, p2⟩, fun v H2 y => ?_⟩
      obtain ⟨e, c, hc, rfl⟩ := y
      subst e
      have hx : (tl x)[i]? = some c := by show x.cps.toList[i]? = _; rw [Array.getElem?_toList]; exact hc
      exact hs i c Γ' hx ii H0 G' H2 _ _ (s'.setD (.str _)) st.gh st.hh (turn_meets m1 st)
    · have e : i = x.cps.size := by omega
      subst e
      refine .inl ⟨Nat.le_refl _, ?_⟩
      rw [← lx] at ii
      exact m1.nx Γ' σ' G' H' (hd Γ' ii) st s'
end
end PD

set_option Elab.async false
set_option linter.all false
set_option maxRecDepth 100000
set_option maxHeartbeats 1000000
/-! roomshare/tables.py: the contracts and what the bodies do. -/
namespace PD
open PySem L2
/-- where the classes stand -/
structure CA where
  sh : Addr
  bt : Addr
  br : Addr
  be : Addr
  nb : Addr
  nd : Addr
  ho : Addr
abbrev li (ns : List Int) : PyData := .list (ns.map .int)
abbrev tb (rows : List (List Int)) : PyData := .list (rows.map li)
abbrev ln (R : List Nat) : PyData := .list (R.map fun r : Nat => .int (r : Int))

/-! ### kinds -/
def whole : PyData → Bool
  | .int _ => true
  | _ => false
def isInt : PyData → Bool
  | .int _ => true
  | .bool _ => true
  | _ => false
def isBool : PyData → Bool
  | .bool _ => true
  | _ => false
def isList : PyData → Bool
  | .list _ => true
  | .dict (_ :: _) => true
  | _ => false
def isTup : PyData → Bool
  | .tuple _ => true
  | _ => false
/-- anything but the script -/
def pd : PyData → Bool
  | .dict (_ :: _) => false
  | _ => true
theorem kit_int : ∀ d : PyData, kitB (tyD d) "int" = some (isInt d)
  | .none => by decide +kernel
  | .bool b => by show kitB "bool" "int" = some true; decide +kernel
  | .int i => by show kitB "int" "int" = some true; decide +kernel
  | .str s => by show kitB "str" "int" = some false; decide +kernel
  | .list xs => by show kitB "list" "int" = some false; decide +kernel
  | .tuple xs => by show kitB "tuple" "int" = some false; decide +kernel
  | .dict [] => by show kitB "dict" "int" = some false; decide +kernel
  | .dict (_ :: _) => by show kitB "list" "int" = some false; decide +kernel
theorem kit_bool : ∀ d : PyData, kitB (tyD d) "bool" = some (isBool d)
  | .none => by decide +kernel
  | .bool b => by show kitB "bool" "bool" = some true; decide +kernel
  | .int i => by show kitB "int" "bool" = some false; decide +kernel
  | .str s => by show kitB "str" "bool" = some false; decide +kernel
  | .list xs => by show kitB "list" "bool" = some false; decide +kernel
  | .tuple xs => by show kitB "tuple" "bool" = some false; decide +kernel
  | .dict [] => by show kitB "dict" "bool" = some false; decide +kernel
  | .dict (_ :: _) => by show kitB "list" "bool" = some false; decide +kernel
theorem kit_list : ∀ d : PyData, kitB (tyD d) "list" = some (isList d)
  | .none => by decide +kernel
  | .bool b => by show kitB "bool" "list" = some false; decide +kernel
  | .int i => by show kitB "int" "list" = some false; decide +kernel
  | .str s => by show kitB "str" "list" = some false; decide +kernel
  | .list xs => by show kitB "list" "list" = some true; decide +kernel
  | .tuple xs => by show kitB "tuple" "list" = some false; decide +kernel
  | .dict [] => by show kitB "dict" "list" = some false; decide +kernel
  | .dict (_ :: _) => by show kitB "list" "list" = some true; decide +kernel
theorem kit_tup : ∀ d : PyData, kitB (tyD d) "tuple" = some (isTup d)
  | .none => by decide +kernel
  | .bool b => by show kitB "bool" "tuple" = some false; decide +kernel
  | .int i => by show kitB "int" "tuple" = some false; decide +kernel
  | .str s => by show kitB "str" "tuple" = some false; decide +kernel
  | .list xs => by show kitB "list" "tuple" = some false; decide +kernel
  | .tuple xs => by show kitB "tuple" "tuple" = some true; decide +kernel
  | .dict [] => by show kitB "dict" "tuple" = some false; decide +kernel
  | .dict (_ :: _) => by show kitB "list" "tuple" = some false; decide +kernel
theorem whole_eq (d : PyData) : (isInt d && !isBool d) = whole d := by cases d <;> rfl
theorem of_whole {d : PyData} (h : whole d = true) : ∃ i, d = .int i := by
  cases d with
  | int i => exact ⟨i, rfl⟩
  | _ => cases h
theorem of_list {d : PyData} (h : isList d = true) (p : pd d = true) : ∃ xs, d = .list xs := by
  cases d with
  | list xs => exact ⟨xs, rfl⟩
  | dict kvs => cases kvs with
    | nil => cases h
    | cons a b => cases p
  | _ => cases h
section
variable {K : PySem.W.Frag} {c : CA} {E : XK} {Γ : Env} {ta tb : TE} {ds : List PyData} {r : Res}

/-! ### is_whole -/
def S_is_whole (c : CA) (ds : List PyData) (r : Res) : Prop := ∃ d, ds = [d] ∧ r = .ok (.bool (whole d))
abbrev t_is_whole (K : PySem.W.Frag) (c : CA) (E : XK) : TS :=
  (tRet (tAndV (tCB (rIsi K) (tCons (tVar 0) (tCons (tC (.ty "int")) tNil))) (tNotV (tCB (rIsi K) (tCons (tVar 0) (tCons (tC (.ty "bool")) tNil))))))
abbrev N_is_whole : List Str := ["thing"]
theorem ht_is_whole (h : S_is_whole c ds r) : HT K E (t_is_whole K c E) (env0 N_is_whole ds) (Post r) := by
  obtain ⟨d, rfl, rfl⟩ := h
  refine ht_ret (d := .bool (whole d)) (evd_eq (ev_and (ev_isi (ev_var rfl) (kit_int d)) fun _ => ev_not (ev_isi (ev_var rfl) (kit_bool d))) (by rw [whole_eq])) rfl
/-- is_whole(e) -/
theorem ev_whole {d : PyData} (h : EvD K ta Γ d) : EvD K (tCall (spOf K (S_is_whole c)) [] E (tCons ta tNil)) Γ (.bool (whole d)) := ev_call (ea_cons h ea_nil) ⟨d, rfl, rfl⟩

/-! ### is_row -/
def coinOk : PyData → Bool
  | .int i => decide (0 ≤ i) && decide (i ≤ 1000000)
  | _ => false
def isRow (d : PyData) (m : Nat) : Bool := match d with
  | .list xs => decide (xs.length = m) && xs.all coinOk
  | _ => false
def S_is_row (c : CA) (ds : List PyData) (r : Res) : Prop := ∃ (d : PyData) (m : Nat), ds = [d, .int (m : Int)] ∧ m ≤ 8 ∧ pd d = true ∧ r = .ok (.bool (isRow d m))
abbrev t_is_row (K : PySem.W.Frag) (c : CA) (E : XK) : TS :=
  (tSeq (tIfS (tOr (tNot (tB (tCB (rIsi K) (tCons (tVar 0) (tCons (tC (.ty "list")) tNil))))) (tTest (tOp (rNe2 K) (tCB (rLenV K) (tCons (tVar 0) tNil)) (tVar 1)))) (tRet (tC (.bl false))) tNext)
    (tRet (tCB (rAll K) (tCons (tLc (iList K (tVar 0)) (gName 2) tYes (tAndV (tCall (spOf K (S_is_whole c)) [] E0 (tCons (tVar 2) tNil)) (tChain rLeI rLeI (tC (.int 0)) (tVar 2) (tC (.int 1000000)))) [2]) tNil))))
abbrev N_is_row : List Str := ["row", "many", "coins"]
theorem ev_coin {x : PyData} {lo hi : TE} (h : EvD K ta Γ x) (h2 : EvD K ta Γ x) : EvD K (tAndV (tCall (spOf K (S_is_whole c)) [] E (tCons ta tNil)) (tChain rLeI rLeI (tC (.int 0)) ta (tC (.int 1000000)))) Γ (.bool (coinOk x)) := by
  by_cases w : whole x = true
  · obtain ⟨i, rfl⟩ := of_whole w
    exact evd_eq (ev_and (ev_whole h) fun _ => ev_leLe ev_int h ev_int) (by simp [whole, coinOk])
  · have w' : whole x = false := by simpa using w
    refine evd_eq (ev_and (b := false) (ev_whole h) fun e => ?_) ?_
    · rw [w'] at e; cases e
    · rw [w']; cases x <;> first | rfl | (exact absurd rfl w)
theorem ht_is_row (h : S_is_row c ds r) : HT K E (t_is_row K c E) (env0 N_is_row ds) (Post r) := by
  obtain ⟨d, m, rfl, hm, hp, rfl⟩ := h
  show HT K E _ [.da d, .da (.int (m : Int)), .no] _
  by_cases hl : isList d = true
  · obtain ⟨xs, rfl⟩ := of_list hl hp
    refine ht_seq (ht_if (et_or (et_not (et_B (ev_isi (ev_var rfl) (kit_list _)))) fun _ => et_test (ev_neI (ev_lenL (ev_var rfl)) (ev_var rfl))) (fun h => ?_) (fun h => ?_))
    · refine ht_ret ev_bl ?_
      have e : xs.length ≠ m := fun e => by simp [isList, e] at h
      show PyData.bool false = .bool (isRow (.list xs) m)
      simp [isRow, e]
    · have e : xs.length = m := by
        simp [isList] at h
        omega
      refine ht_next ?_
      refine ht_ret (d := .bool ((xs.map coinOk).all id)) (ev_all (ta := _) ?_) ?_
      · have q := eo_mapL (K := K) (Γ := [.da (.list xs), .da (.int (m : Int)), .no]) (j := 2) (tl := tVar 0) (te := (tAndV (tCall (spOf K (S_is_whole c)) [] E0 (tCons (tVar 2) tNil)) (tChain rLeI rLeI (tC (.int 0)) (tVar 2) (tC (.int 1000000))))) xs id (fun x => .bool (coinOk x)) (by rw [List.map_id]; exact ev_var rfl) (by omega)
          (fun x _ => ev_coin (lo := tVar 0) (hi := tVar 0) (ev_var rfl) (ev_var rfl))
        refine evd_eq q.toD ?_
        rw [List.map_map]; rfl
      · show PyData.bool _ = .bool _
        simp [isRow, e, List.all_map]
  · have hl' : isList d = false := by simpa using hl
    refine ht_seq (ht_if (b := true) (evt_eq (et_or (b := false) (et_not (et_B (ev_isi (ev_var rfl) (kit_list _)))) fun e => ?_) (by rw [hl']; rfl)) (fun _ => ?_) (fun z => nomatch z))
    · rw [hl'] at e; cases e
    · refine ht_ret ev_bl ?_
      show PyData.bool false = .bool (isRow d m)
      cases d with
      | list xs => cases hl'
      | _ => rfl

/-! ### need_table -/
def isTab (d : PyData) : Bool := match d with
  | .list xs => decide (1 ≤ xs.length) && decide (xs.length ≤ 8) && xs.all (isRow · xs.length)
  | _ => false
/-- what may be handed in as a table -/
def okT (d : PyData) : Prop := pd d = true ∧ ∀ xs, d = .list xs → ∀ x ∈ xs, pd x = true
def needTable (c : CA) (d : PyData) : Res := if isTab d = true then .ok .none else .er c.bt
def S_need_table (c : CA) (ds : List PyData) (r : Res) : Prop := ∃ d, ds = [d] ∧ okT d ∧ r = needTable c d
abbrev t_need_table (K : PySem.W.Frag) (c : CA) (E : XK) : TS :=
  (tSeq (tIfS (tOr (tNot (tB (tCB (rIsi K) (tCons (tVar 0) (tCons (tC (.ty "list")) tNil))))) (tNot (tTest (tChain rLeI rLeI (tC (.int 1)) (tCB (rLenV K) (tCons (tVar 0) tNil)) (tC (.int 8)))))) (tRaiseC c.bt E) tNext)
    (tFor (iList K (tVar 0)) (gName 1) (tIfS (tNot (tB (tCall (spOf K (S_is_row c)) [] E (tCons (tVar 1) (tCons (tCB (rLenV K) (tCons (tVar 0) tNil)) tNil))))) (tRaiseC c.bt E) tNext)))
abbrev N_need_table : List Str := ["wishes", "row"]
theorem ht_need_table (h : S_need_table c ds r) : HT K E (t_need_table K c E) (env0 N_need_table ds) (Post r) := by
  obtain ⟨d, rfl, ⟨hp, hq⟩, rfl⟩ := h
  show HT K E _ [.da d, .no] _
  have bad : isTab d = false → Post (needTable c d) (.ex c.bt) := fun h => by
    unfold needTable; rw [h]; rfl
  by_cases hl : isList d = true
  · obtain ⟨xs, rfl⟩ := of_list hl hp
    have hx := hq xs rfl
    refine ht_seq (ht_if (et_or (et_not (et_B (ev_isi (ev_var rfl) (kit_list _)))) fun _ => et_not (et_test (ev_leLe ev_int (ev_lenL (ev_var rfl)) ev_int))) (fun h => ?_) (fun h => ?_))
    · refine ht_raise (bad ?_)
      simp [isList] at h
      by_cases y : 1 ≤ xs.length
      · have : ¬ xs.length ≤ 8 := by omega
        simp [isTab, this]
      · simp [isTab, y]
    · simp [isList] at h
      obtain ⟨h1, h2⟩ := h
      have h1 : 1 ≤ xs.length := by omega
      have h2 : xs.length ≤ 8 := by omega
      refine ht_next ?_
      refine ht_forN xs id (fun i Γ' => (∃ s, Γ' = [.da (.list xs), s]) ∧ (xs.take i).all (isRow · xs.length) = true) (by rw [List.map_id]; exact ev_var rfl) ⟨⟨_, rfl⟩, rfl⟩ ?_ ?_
      · rintro i x Γ' hi ⟨⟨s, rfl⟩, ha⟩
        have hm : x ∈ xs := List.mem_of_getElem? hi
        refine ht_if (et_not (et_B (ev_call (ea_cons (ev_var rfl) (ea_cons (ev_lenL (ev_var rfl)) ea_nil)) ⟨x, xs.length, rfl, h2, hx x hm, rfl⟩))) (fun h => ?_) (fun h => ?_)
        · refine ht_raise (bad ?_)
          have hr : isRow x xs.length = false := by simpa using h
          have : xs.all (isRow · xs.length) = false := by
            rw [List.all_eq_false]
            exact ⟨x, hm, by rw [hr]; exact Bool.false_ne_true⟩
          simp [isTab, this]
        · refine ht_next ⟨⟨_, rfl⟩, ?_⟩
          have hr : isRow x xs.length = true := by simpa using h
          rw [take_more hi, List.all_append, ha]
          simp [hr]
      · rintro Γ' ⟨_, ha⟩
        rw [List.take_length] at ha
        show Post (needTable c (.list xs)) (.nx Γ')
        have e : isTab (.list xs) = true := by simp [isTab, h1, h2, ha]
        unfold needTable
        rw [if_pos e]
        rfl
  · have hl' : isList d = false := by simpa using hl
    refine ht_seq (ht_if (b := true) (evt_eq (et_or (b := false) (et_not (et_B (ev_isi (ev_var rfl) (kit_list _)))) fun e => ?_) (by rw [hl']; rfl)) (fun _ => ?_) (fun z => nomatch z))
    · rw [hl'] at e; cases e
    · refine ht_raise (bad ?_)
      cases d with
      | list xs => cases hl'
      | _ => rfl

/-! ### are_places -/
def plOk (m : Nat) (seen : List Int) : List PyData → Bool
  | [] => true
  | .int i :: r => decide (0 ≤ i) && decide (i < (m : Int)) && !decide (i ∈ seen) && plOk m (seen ++ [i]) r
  | _ :: _ => false
def isPlaces (d : PyData) (m : Nat) : Bool := match d with
  | .list xs => plOk m [] xs
  | _ => false
/-- what may be handed in as rooms, a ring -/
def okR (d : PyData) : Prop := pd d = true ∧ ∀ xs, d = .list xs → xs.length ≤ 10000
def S_are_places (c : CA) (ds : List PyData) (r : Res) : Prop := ∃ (d : PyData) (m : Nat), ds = [d, .int (m : Int)] ∧ okR d ∧ r = .ok (.bool (isPlaces d m))
abbrev t_are_places (K : PySem.W.Frag) (c : CA) (E : XK) : TS :=
  (tSeq (tIfS (tNot (tB (tCB (rIsi K) (tCons (tVar 0) (tCons (tC (.ty "list")) tNil))))) (tRet (tC (.bl false))) tNext)
    (tSeq (tAsg tDNewK (gName 2))
    (tSeq (tFor (iList K (tVar 0)) (gName 3) (tSeq (tIfS (tOr (tNot (tB (tCall (spOf K (S_is_whole c)) [] E (tCons (tVar 3) tNil)))) (tOr (tNot (tTest (tChain rLeI rLtI (tC (.int 0)) (tVar 3) (tVar 1)))) (tB (tDIn (tVar 3) (tVar 2))))) (tRet (tC (.bl false))) tNext)
    (sDPut (tVar 2) (tVar 3) (tC (.bl true)))))
    (tRet (tC (.bl true))))))
abbrev N_are_places : List Str := ["things", "many", "seen", "thing"]
theorem ht_are_places (h : S_are_places c ds r) : HT K E (t_are_places K c E) (env0 N_are_places ds) (Post r) := by
  obtain ⟨d, m, rfl, ⟨hp, hz⟩, rfl⟩ := h
  show HT K E _ [.da d, .da (.int (m : Int)), .no, .no] _
  by_cases hl : isList d = true
  · obtain ⟨xs, rfl⟩ := of_list hl hp
    have hz := hz xs rfl
    refine ht_seq (ht_if (et_not (et_B (ev_isi (ev_var rfl) (kit_list _)))) (fun h => by simp [isList] at h) fun _ => ht_next ?_)
    refine ht_seq (ht_asgK ?_)
    refine ht_seq (ht_forN xs id (fun i Γ' => ∃ ks s, Γ' = [.da (.list xs), .da (.int (m : Int)), .od ks, s] ∧ ks.length = i ∧ plOk m [] xs = plOk m ks (xs.drop i)) (by rw [List.map_id]; exact ev_var rfl) ⟨[], _, rfl, rfl, rfl⟩ ?_ ?_)
    · rintro i x Γ' hi ⟨ks, s, rfl, hk, he⟩
      obtain ⟨hil, hix⟩ := List.getElem?_eq_some_iff.mp hi
      have hd : xs.drop i = x :: xs.drop (i + 1) := by rw [List.drop_eq_getElem_cons hil, hix]
      rw [hd] at he
      show HT K E _ [.da (.list xs), .da (.int (m : Int)), .od ks, .da x] _
      by_cases w : whole x = true
      · obtain ⟨j, rfl⟩ := of_whole w
        have he' : plOk m [] xs = (decide (0 ≤ j) && decide (j < (m : Int)) && !decide (j ∈ ks) && plOk m (ks ++ [j]) (xs.drop (i + 1))) := he
        refine ht_seq (ht_if (et_or (et_not (et_B (ev_whole (ev_var rfl)))) fun _ => et_or (et_not (et_test (ev_leLt ev_int (ev_var rfl) (ev_var rfl)))) fun _ => et_B (ev_din rfl (ev_var rfl))) (fun h => ?_) (fun h => ?_))
        · refine ht_ret ev_bl ?_
          show PyData.bool false = .bool (plOk m [] xs)
          rw [he']
          simp [whole] at h
          by_cases y1 : 0 ≤ j
          · by_cases y2 : j < (m : Int)
            · have y3 : j ∈ ks := by
                rcases h with h | h
                · omega
                · exact h
              simp [y3]
            · simp [y2]
          · simp [y1]
        · simp [whole] at h
          obtain ⟨⟨h1, h2⟩, h3⟩ := h
          refine ht_next (ht_put rfl ev_bl (ev_var rfl) h3 (by omega) ⟨ks ++ [j], _, rfl, by simp [hk], ?_⟩)
          rw [he']
          simp [h1, h2, h3]
      · have w' : whole x = false := by simpa using w
        refine ht_seq (ht_if (b := true) (evt_eq (et_or (b := false) (et_not (et_B (ev_whole (ev_var rfl)))) fun e => ?_) (by rw [w']; rfl)) (fun _ => ?_) (fun z => nomatch z))
        · rw [w'] at e; cases e
        · refine ht_ret ev_bl ?_
          show PyData.bool false = .bool (plOk m [] xs)
          rw [he]
          cases x with
          | int j => cases w'
          | _ => rfl
    · rintro Γ' ⟨ks, s, rfl, hk, he⟩
      refine ht_ret ev_bl ?_
      show PyData.bool true = .bool (plOk m [] xs)
      rw [he, List.drop_length]
      rfl
  · have hl' : isList d = false := by simpa using hl
    refine ht_seq (ht_if (b := true) (evt_eq (et_not (et_B (ev_isi (ev_var rfl) (kit_list _)))) (by rw [hl']; rfl)) (fun _ => ?_) (fun z => nomatch z))
    refine ht_ret ev_bl ?_
    show PyData.bool false = .bool (isPlaces d m)
    cases d with
    | list xs => cases hl'
    | _ => rfl

/-! ### need_place -/
def placeOk (d : PyData) (m : Nat) : Bool := match d with
  | .int i => decide (0 ≤ i) && decide (i < (m : Int))
  | _ => false
def S_need_place (c : CA) (ds : List PyData) (r : Res) : Prop := ∃ (d : PyData) (m : Nat), ds = [d, .int (m : Int)] ∧ r = if placeOk d m = true then .ok .none else .er c.br
abbrev t_need_place (K : PySem.W.Frag) (c : CA) (E : XK) : TS :=
  (tIfS (tOr (tNot (tB (tCall (spOf K (S_is_whole c)) [] E (tCons (tVar 0) tNil)))) (tNot (tTest (tChain rLeI rLtI (tC (.int 0)) (tVar 0) (tVar 1))))) (tRaiseC c.br E) tNext)
abbrev N_need_place : List Str := ["thing", "many"]
theorem ht_need_place (h : S_need_place c ds r) : HT K E (t_need_place K c E) (env0 N_need_place ds) (Post r) := by
  obtain ⟨d, m, rfl, rfl⟩ := h
  show HT K E _ [.da d, .da (.int (m : Int))] _
  by_cases w : whole d = true
  · obtain ⟨j, rfl⟩ := of_whole w
    refine ht_if (et_or (et_not (et_B (ev_whole (ev_var rfl)))) fun _ => et_not (et_test (ev_leLt ev_int (ev_var rfl) (ev_var rfl)))) (fun h => ?_) (fun h => ?_)
    · have e : placeOk (.int j) m = false := by
        simp [whole] at h
        show (decide (0 ≤ j) && decide (j < (m : Int))) = false
        by_cases y : 0 ≤ j
        · simp; omega
        · simp [y]
      refine ht_raise ?_
      rw [e]; rfl
    · have e : placeOk (.int j) m = true := by
        simp [whole] at h
        show (decide (0 ≤ j) && decide (j < (m : Int))) = true
        simp [h]
      refine ht_next ?_
      rw [if_pos e]; rfl
  · have w' : whole d = false := by simpa using w
    refine ht_if (b := true) (evt_eq (et_or (b := false) (et_not (et_B (ev_whole (ev_var rfl)))) fun e => ?_) (by rw [w']; rfl)) (fun _ => ?_) (fun z => nomatch z)
    · rw [w'] at e; cases e
    · have e : placeOk d m = false := by
        cases d with
        | int j => cases w'
        | _ => rfl
      refine ht_raise ?_
      rw [e]; rfl

/-! ### need_rooms -/
def lenD : PyData → Nat
  | .list xs => xs.length
  | _ => 0
def roomsOk (w d : PyData) : Bool := isPlaces d (lenD w) && decide (lenD d = lenD w)
def needRooms (c : CA) (w d : PyData) : Res := if isTab w = true then (if roomsOk w d = true then .ok .none else .er c.br) else .er c.bt
def S_need_rooms (c : CA) (ds : List PyData) (r : Res) : Prop := ∃ w d, ds = [w, d] ∧ okT w ∧ okR d ∧ r = needRooms c w d
abbrev t_need_rooms (K : PySem.W.Frag) (c : CA) (E : XK) : TS :=
  (tSeq (tDrop (tCall (spOf K (S_need_table c)) [] E (tCons (tVar 0) tNil)))
    (tIfS (tOr (tNot (tB (tCall (spOf K (S_are_places c)) [] E (tCons (tVar 1) (tCons (tCB (rLenV K) (tCons (tVar 0) tNil)) tNil))))) (tTest (tOp (rNe2 K) (tCB (rLenV K) (tCons (tVar 1) tNil)) (tCB (rLenV K) (tCons (tVar 0) tNil))))) (tRaiseC c.br E) tNext))
abbrev N_need_rooms : List Str := ["wishes", "rooms"]
theorem ht_need_rooms (h : S_need_rooms c ds r) : HT K E (t_need_rooms K c E) (env0 N_need_rooms ds) (Post r) := by
  obtain ⟨w, d, rfl, hw, hd, rfl⟩ := h
  show HT K E _ [.da w, .da d] _
  by_cases ht : isTab w = true
  · have e1 : needTable c w = .ok .none := by unfold needTable; rw [if_pos ht]
    have e2 : needRooms c w d = if roomsOk w d = true then .ok .none else .er c.br := by unfold needRooms; rw [if_pos ht]
    obtain ⟨xs, rfl⟩ : ∃ xs, w = .list xs := by
      cases w with
      | list xs => exact ⟨xs, rfl⟩
      | _ => cases ht
    refine ht_seq (ht_drop (ev_call (ea_cons (ev_var rfl) ea_nil) ⟨_, rfl, hw, e1.symm⟩) ?_)
    have ep : EvD K (tCall (spOf K (S_are_places c)) [] E (tCons (tVar 1) (tCons (tCB (rLenV K) (tCons (tVar 0) tNil)) tNil))) [.da (.list xs), .da d] (.bool (isPlaces d xs.length)) :=
      ev_call (ea_cons (ev_var rfl) (ea_cons (ev_lenL (ev_var rfl)) ea_nil)) ⟨d, xs.length, rfl, hd, rfl⟩
    by_cases hi : isPlaces d xs.length = true
    · obtain ⟨ys, rfl⟩ : ∃ ys, d = .list ys := by
        cases d with
        | list xs => exact ⟨xs, rfl⟩
        | _ => cases hi
      refine ht_if (et_or (et_not (et_B ep)) fun _ => et_test (ev_neI (ev_lenL (ev_var rfl)) (ev_lenL (ev_var rfl)))) (fun h => ?_) (fun h => ?_)
      · refine ht_raise ?_
        have : roomsOk (.list xs) (.list ys) = false := by
          simp [hi] at h
          have h' : ys.length ≠ xs.length := by omega
          simp [roomsOk, lenD, hi, h']
        rw [e2, this]; rfl
      · refine ht_next ?_
        have : roomsOk (.list xs) (.list ys) = true := by
          simp [hi] at h
          have h' : ys.length = xs.length := by omega
          simp [roomsOk, lenD, hi, h'] at hi ⊢
          try exact hi
        rw [e2, if_pos this]; rfl
    · have hi' : isPlaces d xs.length = false := by simpa using hi
      refine ht_if (b := true) (evt_eq (et_or (b := false) (et_not (et_B ep)) fun e => ?_) (by rw [hi']; rfl)) (fun _ => ?_) (fun z => nomatch z)
      · rw [hi'] at e; cases e
      · refine ht_raise ?_
        have : roomsOk (.list xs) d = false := by simp [roomsOk, lenD, hi']
        rw [e2, this]; rfl
  · have ht' : isTab w = false := by simpa using ht
    have e1 : needTable c w = .er c.bt := by unfold needTable; rw [ht']; rfl
    have e2 : needRooms c w d = .er c.bt := by unfold needRooms; rw [ht']; rfl
    rw [e2]
    exact ht_seq (ht_dropX (ex_call (ea_cons (ev_var rfl) ea_nil) ⟨_, rfl, hw, e1.symm⟩) rfl)

/-! ### good tables, good rooms -/
structure Tab (W : List (List Int)) (n : Nat) : Prop where
  len : W.length = n
  lo : 1 ≤ n
  hi : n ≤ 8
  row : ∀ r ∈ W, r.length = n
  coin : ∀ r ∈ W, ∀ x ∈ r, 0 ≤ x ∧ x ≤ 1000000
structure Rms (R : List Nat) (n : Nat) : Prop where
  len : R.length = n
  lt : ∀ r ∈ R, r < n
  nd : R.Nodup
theorem isRow_li {ns : List Int} {n : Nat} (hl : ns.length = n) (h : ∀ x ∈ ns, 0 ≤ x ∧ x ≤ 1000000) : isRow (li ns) n = true := by
  show (decide ((ns.map PyData.int).length = n) && (ns.map PyData.int).all coinOk) = true
  rw [List.length_map, decide_eq_true hl, Bool.true_and, List.all_eq_true]
  intro d hd
  obtain ⟨x, hx, rfl⟩ := List.mem_map.mp hd
  show (decide (0 ≤ x) && decide (x ≤ 1000000)) = true
  simp [h x hx]
theorem Tab.is {W : List (List Int)} {n : Nat} (t : Tab W n) : isTab (PD.tb W) = true := by
  show (decide (1 ≤ (W.map li).length) && decide ((W.map li).length ≤ 8) && (W.map li).all (isRow · (W.map li).length)) = true
  rw [List.length_map, t.len, decide_eq_true t.lo, decide_eq_true t.hi, Bool.true_and, Bool.true_and, List.all_eq_true]
  intro d hd
  obtain ⟨x, hx, rfl⟩ := List.mem_map.mp hd
  exact isRow_li (t.row x hx) (t.coin x hx)
theorem okT_tb (W : List (List Int)) : okT (PD.tb W) := ⟨rfl, fun xs e x hx => by
  cases e
  obtain ⟨y, _, rfl⟩ := List.mem_map.mp hx
  rfl⟩
theorem Tab.need {W : List (List Int)} {n : Nat} (t : Tab W n) : S_need_table c [PD.tb W] (.ok .none) := ⟨_, rfl, okT_tb W, by unfold needTable; rw [if_pos t.is]⟩
theorem plOk_ln {m : Nat} : ∀ {R : List Nat} {seen : List Int}, (∀ r ∈ R, r < m) → R.Nodup → (∀ r ∈ R, ((r : Nat) : Int) ∉ seen) → plOk m seen (R.map fun r : Nat => .int (r : Int)) = true
  | [], _, _, _, _ => rfl
  | r :: R, seen, h1, h2, h3 => by
    rw [List.nodup_cons] at h2
    have a1 : r < m := h1 r List.mem_cons_self
    have a3 := h3 r List.mem_cons_self
    have ih := plOk_ln (m := m) (R := R) (seen := seen ++ [(r : Int)]) (fun x hx => h1 x (List.mem_cons_of_mem _ hx)) h2.2 (fun x hx hm => by
      rcases List.mem_append.mp hm with hm | hm
      · exact h3 x (List.mem_cons_of_mem _ hx) hm
      · have e : (x : Int) = (r : Int) := by simpa using hm
        have e' : x = r := by omega
        exact h2.1 (e' ▸ hx))
    show (decide (0 ≤ ((r : Nat) : Int)) && decide (((r : Nat) : Int) < (m : Int)) && !decide (((r : Nat) : Int) ∈ seen) && plOk m (seen ++ [((r : Nat) : Int)]) (R.map fun r : Nat => .int (r : Int))) = true
    rw [ih]
    have q1 : (0 : Int) ≤ (r : Int) := by omega
    have q2 : (r : Int) < (m : Int) := by omega
    simp [q1, q2, a3]
theorem okR_ln {R : List Nat} (h : R.length ≤ 10000) : okR (ln R) := ⟨rfl, fun xs e => by cases e; rw [List.length_map]; exact h⟩
theorem places_ln {R : List Nat} {m : Nat} (h1 : ∀ r ∈ R, r < m) (h2 : R.Nodup) : isPlaces (ln R) m = true := plOk_ln h1 h2 (fun _ _ h => nomatch h)
theorem Rms.ok {W : List (List Int)} {R : List Nat} {n : Nat} (t : Tab W n) (q : Rms R n) : roomsOk (PD.tb W) (ln R) = true := by
  unfold roomsOk
  have e1 : lenD (PD.tb W) = n := by show (W.map li).length = n; rw [List.length_map, t.len]
  have e2 : lenD (ln R) = n := by show (R.map _).length = n; rw [List.length_map, q.len]
  rw [e1, e2, places_ln q.lt q.nd]
  simp
theorem Rms.need {W : List (List Int)} {R : List Nat} {n : Nat} (t : Tab W n) (q : Rms R n) : S_need_rooms c [PD.tb W, ln R] (.ok .none) :=
  ⟨_, _, rfl, okT_tb W, okR_ln (by have := t.hi; rw [q.len]; omega), by unfold needRooms; rw [if_pos t.is, if_pos (q.ok t)]⟩
/-- one cell -/
def cell (W : List (List Int)) (i k : Nat) : Int := (W.getD i []).getD k 0
def gn (W : List (List Int)) (R : List Nat) (i j : Nat) : Int := cell W i (R.getD j 0) - cell W i (R.getD i 0)
theorem ev_row {W : List (List Int)} {i : Nat} (ha : EvD K ta Γ (PD.tb W)) (hb : EvD K tb Γ (.int (i : Int))) (h : i < W.length) : EvD K (tOp (rIx K) ta tb) Γ (li (W.getD i [])) :=
  ev_ixL ha hb (atI_map (f := li) (by omega) (by omega) [])
theorem ev_at {ns : List Int} {i : Nat} (ha : EvD K ta Γ (li ns)) (hb : EvD K tb Γ (.int (i : Int))) (h : i < ns.length) : EvD K (tOp (rIx K) ta tb) Γ (.int (ns.getD i 0)) :=
  ev_ixL ha hb (atI_map (f := PyData.int) (by omega) (by omega) 0)
theorem ev_room {R : List Nat} {i : Nat} (ha : EvD K ta Γ (ln R)) (hb : EvD K tb Γ (.int (i : Int))) (h : i < R.length) : EvD K (tOp (rIx K) ta tb) Γ (.int ((R.getD i 0 : Nat) : Int)) :=
  ev_ixL ha hb (atI_map (f := fun r : Nat => PyData.int (r : Int)) (by omega) (by omega) 0)
theorem getD_mem {α : Type} {l : List α} {i : Nat} {d : α} (h : i < l.length) : l.getD i d ∈ l := by
  rw [List.getD_eq_getElem?_getD, List.getElem?_eq_getElem h]; exact List.getElem_mem h
theorem Rms.at_lt {R : List Nat} {n i : Nat} (q : Rms R n) (h : i < n) : R.getD i 0 < n := q.lt _ (getD_mem (by rw [q.len]; exact h))
theorem Tab.row_len {W : List (List Int)} {n i : Nat} (t : Tab W n) (h : i < n) : (W.getD i []).length = n := t.row _ (getD_mem (by rw [t.len]; exact h))
theorem ev_cell {W : List (List Int)} {n i k : Nat} (t : Tab W n) {tw ti tk : TE} (hw : EvD K tw Γ (PD.tb W)) (hi : EvD K ti Γ (.int (i : Int))) (hk : EvD K tk Γ (.int (k : Int))) (h1 : i < n) (h2 : k < n) :
    EvD K (tOp (rIx K) (tOp (rIx K) tw ti) tk) Γ (.int (cell W i k)) := ev_at (ev_row hw hi (by rw [t.len]; exact h1)) hk (by rw [t.row_len h1]; exact h2)
theorem ev_roomOf {R : List Nat} {n i : Nat} (q : Rms R n) (ha : EvD K ta Γ (ln R)) (hb : EvD K tb Γ (.int (i : Int))) (h : i < n) : EvD K (tOp (rIx K) ta tb) Γ (.int ((R.getD i 0 : Nat) : Int)) := ev_room ha hb (by rw [q.len]; exact h)

/-! ### step, gain, total -/
def S_step (c : CA) (ds : List PyData) (r : Res) : Prop := ∃ (W : List (List Int)) (R : List Nat) (n i j : Nat), Tab W n ∧ Rms R n ∧ i < n ∧ j < n ∧ ds = [PD.tb W, ln R, .int (i : Int), .int (j : Int)] ∧ r = .ok (.int (gn W R i j))
abbrev t_step (K : PySem.W.Frag) (c : CA) (E : XK) : TS :=
  (tRet (tOp rSubI (tOp (rIx K) (tOp (rIx K) (tVar 0) (tVar 2)) (tOp (rIx K) (tVar 1) (tVar 3))) (tOp (rIx K) (tOp (rIx K) (tVar 0) (tVar 2)) (tOp (rIx K) (tVar 1) (tVar 2)))))
abbrev N_step : List Str := ["wishes", "rooms", "one", "other"]
theorem ht_step (h : S_step c ds r) : HT K E (t_step K c E) (env0 N_step ds) (Post r) := by
  obtain ⟨W, R, n, i, j, t, q, hi, hj, rfl, rfl⟩ := h
  show HT K E _ [.da (PD.tb W), .da (ln R), .da (.int (i : Int)), .da (.int (j : Int))] _
  exact ht_ret (ev_sub (ev_cell t (ev_var rfl) (ev_var rfl) (ev_roomOf q (ev_var rfl) (ev_var rfl) hj) hi (q.at_lt hj)) (ev_cell t (ev_var rfl) (ev_var rfl) (ev_roomOf q (ev_var rfl) (ev_var rfl) hi) hi (q.at_lt hi))) rfl
/-- what is refused ahead of all else -/
def S_ahead (c : CA) (ds : List PyData) (r : Res) : Prop := ∃ (w d : PyData) (rest : List PyData) (C : Addr), ds = w :: d :: rest ∧ okT w ∧ okR d ∧ needRooms c w d = .er C ∧ r = .er C
def S_gain (c : CA) (ds : List PyData) (r : Res) : Prop :=
  (∃ (W : List (List Int)) (R : List Nat) (n i j : Nat), Tab W n ∧ Rms R n ∧ i < n ∧ j < n ∧ ds = [PD.tb W, ln R, .int (i : Int), .int (j : Int)] ∧ r = .ok (.int (gn W R i j))) ∨
  (ds.length = 4 ∧ S_ahead c ds r) ∨
  (∃ (W : List (List Int)) (R : List Nat) (n : Nat) (a b : PyData), Tab W n ∧ Rms R n ∧ (placeOk a n = true → placeOk b n = false) ∧ ds = [PD.tb W, ln R, a, b] ∧ r = .er c.br)
abbrev t_gain (K : PySem.W.Frag) (c : CA) (E : XK) : TS :=
  (tSeq (tDrop (tCall (spOf K (S_need_rooms c)) [] E (tCons (tVar 0) (tCons (tVar 1) tNil))))
    (tSeq (tDrop (tCall (spOf K (S_need_place c)) [] E (tCons (tVar 2) (tCons (tCB (rLenV K) (tCons (tVar 1) tNil)) tNil))))
    (tSeq (tDrop (tCall (spOf K (S_need_place c)) [] E (tCons (tVar 3) (tCons (tCB (rLenV K) (tCons (tVar 1) tNil)) tNil))))
    (tRet (tCall (spOf K (S_step c)) [] E (tCons (tVar 0) (tCons (tVar 1) (tCons (tVar 2) (tCons (tVar 3) tNil)))))))))
abbrev N_gain : List Str := ["wishes", "rooms", "one", "other"]
theorem ht_gain (h : S_gain c ds r) : HT K E (t_gain K c E) (env0 N_gain ds) (Post r) := by
  rcases h with ⟨W, R, n, i, j, t, q, hi, hj, rfl, rfl⟩ | ⟨hl, w, d, rest, C, rfl, hw, hd, he, rfl⟩ | ⟨W, R, n, a, b, t, q, hab, rfl, rfl⟩
  · show HT K E _ [.da (PD.tb W), .da (ln R), .da (.int (i : Int)), .da (.int (j : Int))] _
    have el : (R.map fun r : Nat => PyData.int (r : Int)).length = n := by rw [List.length_map, q.len]
    refine ht_seq (ht_drop (ev_call (ea_cons (ev_var rfl) (ea_cons (ev_var rfl) ea_nil)) (q.need t)) ?_)
    have pl : ∀ k : Nat, k < n → placeOk (.int (k : Int)) n = true := fun k hk => by
      show (decide (0 ≤ (k : Int)) && decide ((k : Int) < (n : Int))) = true
      have : (0 : Int) ≤ (k : Int) := by omega
      have : (k : Int) < (n : Int) := by omega
      simp [*]
    refine ht_seq (ht_drop (ev_call (ea_cons (ev_var rfl) (ea_cons (ev_lenL (ev_var rfl)) ea_nil)) ⟨_, n, by rw [el], by rw [if_pos (pl i hi)]⟩) ?_)
    refine ht_seq (ht_drop (ev_call (ea_cons (ev_var rfl) (ea_cons (ev_lenL (ev_var rfl)) ea_nil)) ⟨_, n, by rw [el], by rw [if_pos (pl j hj)]⟩) ?_)
    exact ht_ret (ev_call (ea_cons (ev_var rfl) (ea_cons (ev_var rfl) (ea_cons (ev_var rfl) (ea_cons (ev_var rfl) ea_nil)))) ⟨W, R, n, i, j, t, q, hi, hj, rfl, rfl⟩) rfl
  · obtain ⟨a, b, rfl⟩ : ∃ a b, rest = [a, b] := by
      match rest, hl with
      | [a, b], _ => exact ⟨a, b, rfl⟩
    show HT K E _ [.da w, .da d, .da a, .da b] _
    exact ht_seq (ht_dropX (ex_call (ea_cons (ev_var rfl) (ea_cons (ev_var rfl) ea_nil)) ⟨w, d, rfl, hw, hd, he.symm⟩) rfl)
  · show HT K E _ [.da (PD.tb W), .da (ln R), .da a, .da b] _
    have el : (R.map fun r : Nat => PyData.int (r : Int)).length = n := by rw [List.length_map, q.len]
    refine ht_seq (ht_drop (ev_call (ea_cons (ev_var rfl) (ea_cons (ev_var rfl) ea_nil)) (q.need t)) ?_)
    by_cases pa : placeOk a n = true
    · refine ht_seq (ht_drop (ev_call (ea_cons (ev_var rfl) (ea_cons (ev_lenL (ev_var rfl)) ea_nil)) ⟨_, n, by rw [el], by rw [if_pos pa]⟩) ?_)
      exact ht_seq (ht_dropX (ex_call (ea_cons (ev_var rfl) (ea_cons (ev_lenL (ev_var rfl)) ea_nil)) ⟨_, n, by rw [el], by rw [hab pa]; rfl⟩) rfl)
    · exact ht_seq (ht_dropX (ex_call (ea_cons (ev_var rfl) (ea_cons (ev_lenL (ev_var rfl)) ea_nil)) ⟨_, n, by rw [el], by rw [if_neg pa]⟩) rfl)
/-- what all would give -/
def tot (W : List (List Int)) (R : List Nat) : Int := ((List.range R.length).map fun i => cell W i (R.getD i 0)).sum
def S_total (c : CA) (ds : List PyData) (r : Res) : Prop :=
  (∃ (W : List (List Int)) (R : List Nat) (n : Nat), Tab W n ∧ Rms R n ∧ ds = [PD.tb W, ln R] ∧ r = .ok (.int (tot W R))) ∨ (ds.length = 2 ∧ S_ahead c ds r)
abbrev t_total (K : PySem.W.Frag) (c : CA) (E : XK) : TS :=
  (tSeq (tDrop (tCall (spOf K (S_need_rooms c)) [] E (tCons (tVar 0) (tCons (tVar 1) tNil))))
    (tRet (tCB (rSum K) (tCons (tLc (iRng1 (tCons (tCB (rLenV K) (tCons (tVar 1) tNil)) tNil)) (gName 2) tYes (tOp (rIx K) (tOp (rIx K) (tVar 0) (tVar 2)) (tOp (rIx K) (tVar 1) (tVar 2))) [2]) tNil))))
abbrev N_total : List Str := ["wishes", "rooms", "one"]
theorem ht_total (h : S_total c ds r) : HT K E (t_total K c E) (env0 N_total ds) (Post r) := by
  rcases h with ⟨W, R, n, t, q, rfl, rfl⟩ | ⟨hl, w, d, rest, C, rfl, hw, hd, he, rfl⟩
  · show HT K E _ [.da (PD.tb W), .da (ln R), .no] _
    have hn := t.hi
    refine ht_seq (ht_drop (ev_call (ea_cons (ev_var rfl) (ea_cons (ev_var rfl) ea_nil)) (q.need t)) ?_)
    refine ht_ret (ev_sum (ns := (List.range R.length).map fun i => cell W i (R.getD i 0)) ?_) rfl
    have el : (R.map fun r : Nat => PyData.int (r : Int)).length = R.length := List.length_map ..
    have m := eo_mapR (K := K) (Γ := [.da (PD.tb W), .da (ln R), .no]) (j := 2) (ta := tCons (tCB (rLenV K) (tCons (tVar 1) tNil)) tNil) (te := tOp (rIx K) (tOp (rIx K) (tVar 0) (tVar 2)) (tOp (rIx K) (tVar 1) (tVar 2))) (n := (R.length : Int)) (fun i => .int (cell W i (R.getD i 0)))
      (ea_cons (evd_eq (ev_lenL (ev_var rfl)) (by rw [el])) ea_nil) (by rw [q.len]; omega) (fun i hi => by
        have hi' : i < n := by rw [← q.len]; omega
        exact ev_cell t (ev_var rfl) (ev_var rfl) (ev_roomOf q (ev_var rfl) (ev_var rfl) hi') hi' (q.at_lt hi'))
    refine evd_eq m.toD ?_
    rw [List.map_map, Int.toNat_natCast]
    rfl
  · obtain rfl : rest = [] := by
      match rest, hl with
      | [], _ => rfl
    show HT K E _ [.da w, .da d, .no] _
    exact ht_seq (ht_dropX (ex_call (ea_cons (ev_var rfl) (ea_cons (ev_var rfl) ea_nil)) ⟨w, d, rfl, hw, hd, he.symm⟩) rfl)
end
end PD

set_option Elab.async false
set_option linter.all false
set_option maxRecDepth 100000
set_option maxHeartbeats 1000000
/-! What the laws have in common. -/
namespace PD
open PySem L2
/-! ### shapes -/
theorem canLayAll_map {α : Type} {f : α → PyData} : ∀ {xs : List α}, (∀ x ∈ xs, (f x).canLay0 = true) → PyData.canLayAll0 (xs.map f) = true
  | [], _ => by simp [PyData.canLayAll0]
  | x :: xs, h => by
    rw [List.map_cons]
    simp [PyData.canLayAll0, h x List.mem_cons_self, canLayAll_map fun y hy => h y (List.mem_cons_of_mem _ hy)]
theorem depthAll_map {α : Type} {f : α → PyData} {k : Nat} : ∀ {xs : List α}, (∀ x ∈ xs, (f x).depth ≤ k) → PyData.depthAll (xs.map f) ≤ k
  | [], _ => by simp [PyData.depthAll]
  | x :: xs, h => by
    rw [List.map_cons]
    have h1 := h x List.mem_cons_self
    have h2 := depthAll_map (f := f) (k := k) (xs := xs) fun y hy => h y (List.mem_cons_of_mem _ hy)
    simp only [PyData.depthAll]
    omega
/-- a datum that may be compared, of at most that depth -/
def Shp (k : Nat) (d : PyData) : Prop := d.canLay0 = true ∧ d.depth ≤ k
theorem Shp.is {k : Nat} {d : PyData} (h : Shp k d) (hk : k ≤ 64 := by decide) : SeqAt.shaped d = true := by
  unfold SeqAt.shaped
  rw [h.1, Bool.true_and]
  exact decide_eq_true (Nat.le_trans h.2 hk)
theorem shp_int (i : Int) : Shp 0 (.int i) := ⟨by simp [PyData.canLay0], by simp [PyData.depth]⟩
theorem shp_none : Shp 0 .none := ⟨by simp [PyData.canLay0], by simp [PyData.depth]⟩
theorem shp_bool (b : Bool) : Shp 0 (.bool b) := ⟨by simp [PyData.canLay0], by simp [PyData.depth]⟩
theorem shp_list {α : Type} {f : α → PyData} {xs : List α} {k : Nat} (h : ∀ x ∈ xs, Shp k (f x)) : Shp (k + 1) (.list (xs.map f)) :=
  ⟨by simp only [PyData.canLay0]; exact canLayAll_map fun x hx => (h x hx).1, by simp only [PyData.depth]; have := depthAll_map fun x hx => (h x hx).2; omega⟩
theorem shp_listI {xs : List PyData} {k : Nat} (h : ∀ x ∈ xs, Shp k x) : Shp (k + 1) (.list xs) := by
  have := shp_list (f := id) (xs := xs) (k := k) h
  rwa [List.map_id] at this
theorem shp_tup {xs : List PyData} {k : Nat} (h : ∀ x ∈ xs, Shp k x) : Shp (k + 1) (.tuple xs) := by
  have := shp_listI h
  exact ⟨by simpa [PyData.canLay0] using this.1, by simpa [PyData.depth] using this.2⟩
theorem Shp.up {j k : Nat} {d : PyData} (h : Shp j d) (hk : j ≤ k) : Shp k d := ⟨h.1, Nat.le_trans h.2 hk⟩
theorem shp_li (ns : List Int) : Shp 1 (li ns) := shp_list fun x _ => shp_int x
theorem shp_tb (W : List (List Int)) : Shp 2 (tb W) := shp_list fun x _ => shp_li x
theorem shp_ln (R : List Nat) : Shp 1 (ln R) := shp_list fun x _ => shp_int _
theorem eqv_self {k : Nat} {d : PyData} (h : Shp k d) : PyData.eqv d d = true := SeqAt.eqv_refl d h.1
section
variable {K : PySem.W.Frag} {c : CA} {E : XK} {Γ : Env} {ta tb te : TE} {ds : List PyData} {r : Res}
/-- a != b of one and the same -/
theorem ev_neSelf {k : Nat} {d : PyData} (ha : EvD K ta Γ d) (hb : EvD K tb Γ d) (h : Shp k d) (hk : k ≤ 64 := by decide) : EvD K (tOp (rNe2 K) ta tb) Γ (.bool false) :=
  evd_eq (ev_neD ha hb (h.is hk) (h.is hk)) (by rw [eqv_self h]; rfl)
theorem ev_eqSelf {k : Nat} {d : PyData} (ha : EvD K ta Γ d) (hb : EvD K tb Γ d) (h : Shp k d) (hk : k ≤ 64 := by decide) : EvD K (tOp (rEq2 K) ta tb) Γ (.bool true) :=
  evd_eq (ev_eqD ha hb (h.is hk) (h.is hk)) (by rw [eqv_self h])

/-! ### _law_cell_at -/
def ce (ns : List Int) (k : Nat) : Int := ns.getD k 0
def S_law_cell_at (c : CA) (ds : List PyData) (r : Res) : Prop := ∃ (ns : List Int) (k : Nat), ds = [scr ns, .int (k : Int)] ∧ ns.length ≤ 63 ∧ r = .ok (.int (ce ns k))
abbrev t_law_cell_at (K : PySem.W.Frag) (c : CA) (E : XK) : TS :=
  (tSeq (tIfS (tTest (tOp rLtI (tVar 1) (tCB (rLenV K) (tCons (tVar 0) tNil)))) (tRet (tOp (rIx K) (tVar 0) (tVar 1))) tNext)
    (tRet (tC (.int 0))))
abbrev N_law_cell_at : List Str := ["_law_script", "_law_k"]
theorem ht_law_cell_at (h : S_law_cell_at c ds r) : HT K E (t_law_cell_at K c E) (env0 N_law_cell_at ds) (Post r) := by
  obtain ⟨ns, k, rfl, hn, rfl⟩ := h
  show HT K E _ [.da (scr ns), .da (.int (k : Int))] _
  refine ht_seq (ht_if (et_test (ev_lt (ev_var rfl) (ev_lenScr (ev_var rfl)))) (fun h => ?_) (fun h => ?_))
  · have h : k < ns.length := by have := of_decide_eq_true h; omega
    refine ht_ret (ev_ixScr (k := ce ns k) (ev_var rfl) (ev_var rfl) ?_) rfl
    have := atI_map (f := id) (xs := ns) (i := (k : Int)) (by omega) (by omega) 0
    rw [List.map_id] at this
    exact this
  · have h : ¬ k < ns.length := by have := of_decide_eq_false h; omega
    refine ht_next (ht_ret ev_int ?_)
    show PyData.int 0 = .int (ce ns k)
    unfold ce
    rw [List.getD_eq_getElem?_getD, List.getElem?_eq_none (by omega)]
    rfl
theorem ev_ce {ns : List Int} {k : Nat} (h1 : EvD K ta Γ (scr ns)) (h2 : EvD K tb Γ (.int (k : Int))) (hn : ns.length ≤ 63) : EvD K (tCall (spOf K (S_law_cell_at c)) [] E (tCons ta (tCons tb tNil))) Γ (.int (ce ns k)) :=
  ev_call (ea_cons h1 (ea_cons h2 ea_nil)) ⟨ns, k, rfl, hn, rfl⟩

/-! ### _law_coins_by -/
def coinsBy (x m : Int) : Int := if m = 0 then x % 1000001 else if m = 1 then x % 10 else if m = 2 then x % 2 * 1000000 else 999998 + x % 3
theorem coinsBy_ok (x m : Int) : 0 ≤ coinsBy x m ∧ coinsBy x m ≤ 1000000 := by
  unfold coinsBy
  split
  · omega
  · split
    · omega
    · split <;> omega
def S_law_coins_by (c : CA) (ds : List PyData) (r : Res) : Prop := ∃ x m : Int, ds = [.int x, .int m] ∧ r = .ok (.int (coinsBy x m))
abbrev t_law_coins_by (K : PySem.W.Frag) (c : CA) (E : XK) : TS :=
  (tSeq (tIfS (tTest (tOp (rEq2 K) (tVar 1) (tC (.int 0)))) (tRet (tOp rModI (tVar 0) (tC (.int 1000001)))) tNext)
    (tSeq (tIfS (tTest (tOp (rEq2 K) (tVar 1) (tC (.int 1)))) (tRet (tOp rModI (tVar 0) (tC (.int 10)))) tNext)
    (tSeq (tIfS (tTest (tOp (rEq2 K) (tVar 1) (tC (.int 2)))) (tRet (tOp rMul2 (tOp rModI (tVar 0) (tC (.int 2))) (tC (.int 1000000)))) tNext)
    (tRet (tOp rAdd3 (tC (.int 999998)) (tOp rModI (tVar 0) (tC (.int 3))))))))
abbrev N_law_coins_by : List Str := ["_law_cell", "_law_mode"]
theorem ht_law_coins_by (h : S_law_coins_by c ds r) : HT K E (t_law_coins_by K c E) (env0 N_law_coins_by ds) (Post r) := by
  obtain ⟨x, m, rfl, rfl⟩ := h
  show HT K E _ [.da (.int x), .da (.int m)] _
  refine ht_seq (ht_if (et_test (ev_eqI (ev_var rfl) ev_int)) (fun h => ?_) (fun h => ?_))
  · have h := of_decide_eq_true h
    refine ht_ret (ev_mod (ev_var rfl) ev_int (by decide)) ?_
    show PyData.int _ = .int (coinsBy x m)
    rw [coinsBy, if_pos h]
  have h0 := of_decide_eq_false h
  refine ht_next (ht_seq (ht_if (et_test (ev_eqI (ev_var rfl) ev_int)) (fun h => ?_) (fun h => ?_)))
  · have h := of_decide_eq_true h
    refine ht_ret (ev_mod (ev_var rfl) ev_int (by decide)) ?_
    show PyData.int _ = .int (coinsBy x m)
    rw [coinsBy, if_neg h0, if_pos h]
  have h1 := of_decide_eq_false h
  refine ht_next (ht_seq (ht_if (et_test (ev_eqI (ev_var rfl) ev_int)) (fun h => ?_) (fun h => ?_)))
  · have h := of_decide_eq_true h
    refine ht_ret (ev_mul (ev_mod (ev_var rfl) ev_int (by decide)) ev_int (.inr (by decide))) ?_
    show PyData.int _ = .int (coinsBy x m)
    rw [coinsBy, if_neg h0, if_neg h1, if_pos h]
  have h2 := of_decide_eq_false h
  refine ht_next (ht_ret (ev_add ev_int (ev_mod (ev_var rfl) ev_int (by decide))) ?_)
  show PyData.int _ = .int (coinsBy x m)
  rw [coinsBy, if_neg h0, if_neg h1, if_neg h2]

/-! ### _law_table_by -/
def mkTab (n : Nat) (f : Nat → Nat → Int) : List (List Int) := (List.range n).map fun i => (List.range n).map fun k => f i k
theorem mkTab_tab {n : Nat} {f : Nat → Nat → Int} (h1 : 1 ≤ n) (h8 : n ≤ 8) (hf : ∀ i k, 0 ≤ f i k ∧ f i k ≤ 1000000) : Tab (mkTab n f) n := by
  refine ⟨by simp [mkTab], h1, h8, fun r hr => ?_, fun r hr x hx => ?_⟩
  · obtain ⟨i, _, rfl⟩ := List.mem_map.mp hr
    simp
  · obtain ⟨i, _, rfl⟩ := List.mem_map.mp hr
    obtain ⟨k, _, rfl⟩ := List.mem_map.mp hx
    exact hf i k
def tableBy (ns : List Int) (n : Nat) : List (List Int) := mkTab n fun i k => coinsBy (ce ns (3 + (n * i + k) % 60)) (ce ns 1 % 4)
theorem tableBy_tab {ns : List Int} {n : Nat} (h1 : 1 ≤ n) (h8 : n ≤ 8) : Tab (tableBy ns n) n := mkTab_tab h1 h8 fun _ _ => coinsBy_ok _ _
def S_law_table_by (c : CA) (ds : List PyData) (r : Res) : Prop := ∃ (ns : List Int) (n : Nat), ds = [scr ns, .int (n : Int)] ∧ ns.length ≤ 63 ∧ n ≤ 8 ∧ r = .own ((tableBy ns n).map li)
abbrev t_law_table_by (K : PySem.W.Frag) (c : CA) (E : XK) : TS :=
  (tSeq (tAsg (tOp rModI (tCall (spOf K (S_law_cell_at c)) [] E (tCons (tVar 0) (tCons (tC (.int 1)) tNil))) (tC (.int 4))) (gName 2))
    (tSeq (tAsg (tLst tNil) (gName 3))
    (tSeq (tFor (iRng1 (tCons (tVar 1) tNil)) (gName 4) (tDrop (tBM K "list" rAppend (tVar 3) (tCons (tLc (iRng1 (tCons (tVar 1) tNil)) (gName 5) tYes (tCall (spOf K (S_law_coins_by c)) [] E0 (tCons (tCall (spOf K (S_law_cell_at c)) [] E0 (tCons (tVar 0) (tCons (tOp rAdd3 (tC (.int 3)) (tOp rModI (tOp rAdd3 (tOp rMul2 (tVar 1) (tVar 4)) (tVar 5)) (tC (.int 60)))) tNil))) (tCons (tVar 2) tNil))) [5]) tNil))))
    (tRet (tVar 3)))))
abbrev N_law_table_by : List Str := ["_law_script", "_law_many", "_law_mode", "_law_table", "_law_one", "_law_room"]
theorem range_take (n i : Nat) (h : i ≤ n) : (List.range n).take i = List.range i := by
  rw [List.take_range, Nat.min_eq_left h]
/-- a table that a loop fills row by row -/
theorem rows_more {n : Nat} {f : Nat → Nat → Int} (i : Nat) : ((mkTab n f).take i).map li = ((List.range n).take i).map fun i => li ((List.range n).map fun k => f i k) := by
  unfold mkTab
  rw [← List.map_take, List.map_map]; rfl
theorem ht_law_table_by (h : S_law_table_by c ds r) : HT K E (t_law_table_by K c E) (env0 N_law_table_by ds) (Post r) := by
  obtain ⟨ns, n, rfl, hn, h8, rfl⟩ := h
  show HT K E _ [.da (scr ns), .da (.int (n : Int)), .no, .no, .no, .no] _
  refine ht_seq (ht_asg (ev_mod (ev_ce (ev_var rfl) (k := 1) ev_int hn) ev_int (by decide)) ?_)
  refine ht_seq (ht_asgO (eo_lst ea_nil (by decide)) ?_)
  refine ht_seq (ht_forR (n := (n : Int)) (fun i Γ' => ∃ s, Γ' = [.da (scr ns), .da (.int (n : Int)), .da (.int (ce ns 1 % 4)), .ow ((List.range i).map fun i => li ((List.range n).map fun k => coinsBy (ce ns (3 + (n * i + k) % 60)) (ce ns 1 % 4))), s, .no])
    (ea_cons (ev_var rfl) ea_nil) (by omega) ⟨_, rfl⟩ ?_ ?_)
  · rintro i Γ' hi ⟨s, rfl⟩
    have hi : i < n := by omega
    show HT K E _ [.da (scr ns), .da (.int (n : Int)), .da (.int (ce ns 1 % 4)), .ow _, .da (.int (i : Int)), .no] _
    refine ht_app rfl (EvO.toD (eo_mapR (j := 5) (n := (n : Int)) (fun k => .int (coinsBy (ce ns (3 + (n * i + k) % 60)) (ce ns 1 % 4))) (ea_cons (ev_var rfl) ea_nil) (by omega) fun k hk => ?_)) (by simp; omega) ⟨.da (.int (i : Int)), ?_⟩
    · refine ev_call (ea_cons (ev_ce (k := 3 + (n * i + k) % 60) (ev_var rfl) (evd_eq (ev_add ev_int (ev_mod (ev_add (ev_mul (ev_var rfl) (ev_var rfl) (.inl (by omega))) (ev_var rfl)) ev_int (by decide))) ?_) hn) (ea_cons (ev_var rfl) ea_nil)) ⟨_, _, rfl, rfl⟩
      exact congrArg PyData.int (by push_cast; rfl)
    · rw [List.range_succ, List.map_append, Int.toNat_natCast]
      simp [li, List.map_map, Function.comp_def]
  · rintro Γ' ⟨s, rfl⟩
    refine ht_retS rfl ?_
    show _ = List.map li (tableBy ns n)
    rw [Int.toNat_natCast]
    unfold tableBy mkTab
    rw [List.map_map]; rfl

/-! ### _law_rooms_by -/
def dealGo : Nat → Int → List Nat → List Nat
  | 0, _, _ => []
  | k + 1, x, left => left.getD (x % ((k + 1 : Nat) : Int)).toNat 0 :: dealGo k (x / ((k + 1 : Nat) : Int)) (left.eraseIdx (x % ((k + 1 : Nat) : Int)).toNat)
def roomsBy (x : Int) (n : Nat) : List Nat := dealGo n x (List.range n)
theorem map_erase {α β : Type} (f : α → β) : ∀ (l : List α) (i : Nat), (l.map f).eraseIdx i = (l.eraseIdx i).map f
  | [], _ => rfl
  | _ :: _, 0 => rfl
  | a :: l, i + 1 => by
    show f a :: (l.map f).eraseIdx i = f a :: (l.eraseIdx i).map f
    rw [map_erase f l i]
theorem perm_erase {α : Type} : ∀ {l : List α} {i : Nat} {d : α}, i < l.length → (l.getD i d :: l.eraseIdx i).Perm l
  | [], i, d, h => absurd h (Nat.not_lt_zero _)
  | a :: l, 0, d, h => .refl _
  | a :: l, i + 1, d, h => by
    have ih := perm_erase (l := l) (i := i) (d := d) (by simpa using h)
    show (l.getD i d :: a :: l.eraseIdx i).Perm (a :: l)
    exact (List.Perm.swap ..).trans (ih.cons a)
theorem deal_ix {x : Int} {k : Nat} : (x % ((k + 1 : Nat) : Int)).toNat < k + 1 ∧ (((x % ((k + 1 : Nat) : Int)).toNat : Nat) : Int) = x % ((k + 1 : Nat) : Int) := by
  have h1 := Int.emod_nonneg x (b := ((k + 1 : Nat) : Int)) (by omega)
  have h2 := Int.emod_lt_of_pos x (b := ((k + 1 : Nat) : Int)) (by omega)
  omega
theorem dealGo_perm : ∀ {k : Nat} {x : Int} {left : List Nat}, left.length = k → (dealGo k x left).Perm left
  | 0, x, left, h => by
    have : left = [] := List.length_eq_zero_iff.mp h
    subst this; exact .refl _
  | k + 1, x, left, h => by
    have hi : (x % ((k + 1 : Nat) : Int)).toNat < left.length := by rw [h]; exact deal_ix.1
    have ih := dealGo_perm (k := k) (x := x / ((k + 1 : Nat) : Int)) (left := left.eraseIdx (x % ((k + 1 : Nat) : Int)).toNat) (by rw [List.length_eraseIdx_of_lt hi]; omega)
    exact (ih.cons _).trans (perm_erase hi)
theorem roomsBy_rms (x : Int) (n : Nat) : Rms (roomsBy x n) n := by
  have p : (roomsBy x n).Perm (List.range n) := dealGo_perm (by simp)
  exact ⟨by rw [p.length_eq]; simp, fun r hr => by simpa using (p.mem_iff.mp hr), p.nodup_iff.mpr List.nodup_range⟩
def S_law_rooms_by (c : CA) (ds : List PyData) (r : Res) : Prop := ∃ (x : Int) (n : Nat), ds = [.int x, .int (n : Int)] ∧ n ≤ 8 ∧ r = .own ((roomsBy x n).map fun r : Nat => .int (r : Int))
abbrev t_law_rooms_by (K : PySem.W.Frag) (c : CA) (E : XK) : TS :=
  (tSeq (tAsg (tLstRg (tRg1 (tVar 1))) (gName 2))
    (tSeq (tAsg (tLst tNil) (gName 3))
    (tSeq (tWhile (tTest (tOp rGtI (tCB (rLenV K) (tCons (tVar 2) tNil)) (tC (.int 0)))) (tSeq (tDrop (tBM K "list" rAppend (tVar 3) (tCons (tBM K "list" rPopAt (tVar 2) (tCons (tOp rModI (tVar 0) (tCB (rLenV K) (tCons (tVar 2) tNil))) tNil)) tNil)))
    (tAsg (tOp rDivI (tVar 0) (tOp rAdd3 (tCB (rLenV K) (tCons (tVar 2) tNil)) (tC (.int 1)))) (gName 0))))
    (tRet (tVar 3)))))
abbrev N_law_rooms_by : List Str := ["_law_cell", "_law_many", "_law_left", "_law_rooms"]
theorem ht_law_rooms_by (h : S_law_rooms_by c ds r) : HT K E (t_law_rooms_by K c E) (env0 N_law_rooms_by ds) (Post r) := by
  obtain ⟨x, n, rfl, h8, rfl⟩ := h
  show HT K E _ [.da (.int x), .da (.int (n : Int)), .no, .no] _
  refine ht_seq (ht_asgO (eo_listRg (n := (n : Int)) (ev_var rfl) (by omega)) ?_)
  refine ht_seq (ht_asgO (eo_lst ea_nil (by decide)) ?_)
  refine ht_seq (ht_while (m0 := n) (fun m Γ' => ∃ (y : Int) (left done : List Nat), left.length = m ∧ m ≤ 8 ∧ done.length ≤ 8 ∧ done.length + m = n ∧ done ++ dealGo m y left = roomsBy x n ∧
      Γ' = [.da (.int y), .da (.int (n : Int)), .ow (left.map fun r : Nat => .int (r : Int)), .ow (done.map fun r : Nat => .int (r : Int))]) ⟨x, List.range n, [], by simp, h8, by simp, by simp, rfl, ?_⟩ ?_)
  · rw [Int.toNat_natCast]; rfl
  · rintro m Γ' ⟨y, left, done, hl, hm, hd, hdm, he, rfl⟩
    refine ⟨_, et_frz (et_test (ev_gt (ev_lenL (ev_var rfl)) ev_int)), fun h => ?_, fun h => ?_⟩
    · rw [List.length_map] at h
      have h := of_decide_eq_true h
      obtain ⟨k, rfl⟩ : ∃ k, m = k + 1 := ⟨m - 1, by omega⟩
      have ix := deal_ix (x := y) (k := k)
      have hlen : ((left.map fun r : Nat => PyData.int (r : Int)).length : Int) = ((k + 1 : Nat) : Int) := by rw [List.length_map, hl]
      refine ht_seq (ht_appPop (k := y % ((k + 1 : Nat) : Int)) (d := .int ((left.getD (y % ((k + 1 : Nat) : Int)).toNat 0 : Nat) : Int)) (by decide) rfl rfl (ev_frz (evd_eq (ev_mod (ev_var rfl) (ev_lenL (ev_var rfl)) (by rw [hlen]; omega)) (by rw [hlen]))) (by omega) ?_ (by rw [List.length_map]; omega) (by rw [List.length_map]; omega) ?_)
      · rw [List.getElem?_map, List.getD_eq_getElem?_getD, List.getElem?_eq_getElem (by rw [hl]; exact ix.1)]
        rfl
      · have el : (left.eraseIdx (y % ((k + 1 : Nat) : Int)).toNat).length = k := by rw [List.length_eraseIdx_of_lt (by rw [hl]; exact ix.1)]; omega
        show HT K E _ [.da (.int y), .da (.int (n : Int)), .ow ((left.map fun r : Nat => PyData.int (r : Int)).eraseIdx (y % ((k + 1 : Nat) : Int)).toNat), .ow (done.map (fun r : Nat => PyData.int (r : Int)) ++ [.int ((left.getD (y % ((k + 1 : Nat) : Int)).toNat 0 : Nat) : Int)])] _
        have el2 : (((left.map fun r : Nat => PyData.int (r : Int)).eraseIdx (y % ((k + 1 : Nat) : Int)).toNat).length : Int) = (k : Int) := by
          rw [map_erase, List.length_map, el]
        refine ht_asg (d := .int (y / ((k + 1 : Nat) : Int))) (ev_frz (evd_eq (ev_div (ev_var rfl) (ev_add (ev_lenL (ev_var rfl)) ev_int) (by rw [el2]; unfold CDiv; omega)) (by rw [el2]; rfl))) ?_
        refine ⟨k, by omega, y / ((k + 1 : Nat) : Int), left.eraseIdx (y % ((k + 1 : Nat) : Int)).toNat, done ++ [left.getD (y % ((k + 1 : Nat) : Int)).toNat 0], el, by omega, by rw [List.length_append]; simp; omega, by rw [List.length_append]; simp; omega, ?_, ?_⟩
        · rw [← he, List.append_assoc]; rfl
        · rw [List.map_append, ← map_erase]; rfl
    · rw [List.length_map] at h
      have h := of_decide_eq_false h
      have hm0 : m = 0 := by omega
      subst hm0
      have hd0 : done = roomsBy x n := by rw [← he]; simp [dealGo]
      subst hd0
      exact ht_retS rfl rfl

/-! ### _law_whole -/
def S_law_whole (c : CA) (ds : List PyData) (r : Res) : Prop := ∃ d, ds = [d] ∧ r = .ok (.bool (whole d))
abbrev t_law_whole (K : PySem.W.Frag) (c : CA) (E : XK) : TS :=
  (tRet (tAndV (tCB (rIsi K) (tCons (tVar 0) (tCons (tC (.ty "int")) tNil))) (tNotV (tCB (rIsi K) (tCons (tVar 0) (tCons (tC (.ty "bool")) tNil))))))
abbrev N_law_whole : List Str := ["_law_found"]
theorem ht_law_whole (h : S_law_whole c ds r) : HT K E (t_law_whole K c E) (env0 N_law_whole ds) (Post r) := by
  obtain ⟨d, rfl, rfl⟩ := h
  refine ht_ret (d := .bool (whole d)) (evd_eq (ev_and (ev_isi (ev_var rfl) (kit_int d)) fun _ => ev_not (ev_isi (ev_var rfl) (kit_bool d))) (by rw [whole_eq])) rfl
theorem ev_wholeL {d : PyData} (h : EvD K ta Γ d) : EvD K (tCall (spOf K (S_law_whole c)) [] E (tCons ta tNil)) Γ (.bool (whole d)) := ev_call (ea_cons h ea_nil) ⟨d, rfl, rfl⟩
/-- [list(row) for row in table] -/
theorem eo_copy {j : Nat} {W : List (List Int)} (h : EvD K te Γ (PD.tb W)) (hj : j < Γ.length) (hz : W.length ≤ 100000) : EvO K (tLc (iList K te) (gName j) tYes (tCB (rListV K) (tCons (tVar j) tNil)) [j]) Γ (W.map li) :=
  eo_mapL W li li h hz fun x _ => (eo_list (ev_var (by rw [List.getElem?_set_self (by simp [wipeE]; exact hj)]))).toD
end
end PD

set_option Elab.async false
set_option linter.all false
set_option maxRecDepth 100000
set_option maxHeartbeats 1000000
/-! roomshare/rings.py: the contracts and what the bodies do. -/
namespace PD
open PySem L2
abbrev lnL (R : List Nat) : List PyData := R.map fun r : Nat => .int (r : Int)
section
variable {K : PySem.W.Frag} {c : CA} {E : XK} {Γ : Env} {ta tb te : TE} {ds : List PyData} {r : Res}
/-! ### turned -/
structure Ring (Q : List Nat) (n : Nat) : Prop where
  lt : ∀ q ∈ Q, q < n
  nd : Q.Nodup
  two : 2 ≤ Q.length
def turnGo (R Q : List Nat) : Nat → List Nat
  | 0 => R
  | p + 1 => (turnGo R Q p).set (Q.getD p 0) (R.getD (Q.getD ((p + 1) % Q.length) 0) 0)
def turn (R Q : List Nat) : List Nat := turnGo R Q Q.length
def turnOk (d e : PyData) : Bool := decide (1 ≤ lenD d) && decide (lenD d ≤ 8) && isPlaces d (lenD d) && isPlaces e (lenD d) && decide (2 ≤ lenD e)
def S_turned (c : CA) (ds : List PyData) (r : Res) : Prop :=
  (∃ (R Q : List Nat) (n : Nat), Rms R n ∧ 1 ≤ n ∧ n ≤ 8 ∧ Ring Q n ∧ ds = [ln R, ln Q] ∧ r = .own (lnL (turn R Q))) ∨
  (∃ d e, ds = [d, e] ∧ okR d ∧ okR e ∧ turnOk d e = false ∧ r = .er c.br)
theorem turnGo_len (R Q : List Nat) : ∀ k, (turnGo R Q k).length = R.length
  | 0 => rfl
  | k + 1 => by simp [turnGo, turnGo_len R Q k]
theorem nodup_le : ∀ {n : Nat} {Q : List Nat}, (∀ q ∈ Q, q < n) → Q.Nodup → Q.length ≤ n
  | 0, Q, h1, _ => by
    cases Q with
    | nil => exact Nat.le_refl _
    | cons q Q => exact absurd (h1 q List.mem_cons_self) (Nat.not_lt_zero _)
  | n + 1, Q, h1, h2 => by
    have ih := nodup_le (n := n) (Q := Q.erase n) (fun q hq => by
      have h := (List.Nodup.mem_erase_iff h2).mp hq
      have := h1 q h.2
      have := h.1
      omega) (h2.erase n)
    by_cases hm : n ∈ Q
    · rw [List.length_erase_of_mem hm] at ih; omega
    · rw [List.erase_of_not_mem hm] at ih; omega
theorem Ring.le {Q : List Nat} {n : Nat} (g : Ring Q n) : Q.length ≤ n := nodup_le g.lt g.nd
abbrev t_turned (K : PySem.W.Frag) (c : CA) (E : XK) : TS :=
  (tSeq (tIfS (tOr (tNot (tB (tCB (rIsi K) (tCons (tVar 0) (tCons (tC (.ty "list")) tNil))))) (tOr (tNot (tTest (tChain rLeI rLeI (tC (.int 1)) (tCB (rLenV K) (tCons (tVar 0) tNil)) (tC (.int 8))))) (tNot (tB (tCall (spOf K (S_are_places c)) [] E (tCons (tVar 0) (tCons (tCB (rLenV K) (tCons (tVar 0) tNil)) tNil))))))) (tRaiseC c.br E) tNext)
    (tSeq (tIfS (tOr (tNot (tB (tCall (spOf K (S_are_places c)) [] E (tCons (tVar 1) (tCons (tCB (rLenV K) (tCons (tVar 0) tNil)) tNil))))) (tTest (tOp rLtI (tCB (rLenV K) (tCons (tVar 1) tNil)) (tC (.int 2))))) (tRaiseC c.br E) tNext)
    (tSeq (tAsg (tCB (rListV K) (tCons (tVar 0) tNil)) (gName 2))
    (tSeq (tFor (iRng1 (tCons (tCB (rLenV K) (tCons (tVar 1) tNil)) tNil)) (gName 3) (tAsg (tOp (rIx K) (tVar 0) (tOp (rIx K) (tVar 1) (tOp rModI (tOp rAdd3 (tVar 3) (tC (.int 1))) (tCB (rLenV K) (tCons (tVar 1) tNil))))) (gSub (tVar 2) (tOp (rIx K) (tVar 1) (tVar 3)) rSetL)))
    (tRet (tVar 2))))))
abbrev N_turned : List Str := ["rooms", "ring", "found", "place"]
theorem of_places : ∀ {xs : List PyData} {m : Nat} {seen : List Int}, plOk m seen xs = true → ∃ R : List Nat, xs = lnL R ∧ (∀ r ∈ R, r < m ∧ ((r : Nat) : Int) ∉ seen) ∧ R.Nodup
  | [], m, seen, _ => ⟨[], rfl, fun _ h => (nomatch h), List.nodup_nil⟩
  | x :: xs, m, seen, h => by
    cases x with
    | int i =>
      have h' : ((0 ≤ i ∧ i < (m : Int)) ∧ ¬ i ∈ seen) ∧ plOk m (seen ++ [i]) xs = true := by simpa [plOk] using h
      obtain ⟨⟨⟨h1, h2⟩, h3⟩, h4⟩ := h'
      obtain ⟨R, rfl, h5, h6⟩ := of_places h4
      have ei : ((i.toNat : Nat) : Int) = i := by omega
      refine ⟨i.toNat :: R, by show _ = PyData.int _ :: _; rw [ei], fun r hr => ?_, List.nodup_cons.mpr ⟨fun hm => ?_, h6⟩⟩
      · rcases List.mem_cons.mp hr with e | e
        · subst e; exact ⟨by omega, by rw [ei]; exact h3⟩
        · exact ⟨(h5 r e).1, fun z => (h5 r e).2 (List.mem_append.mpr (.inl z))⟩
      · exact (h5 _ hm).2 (List.mem_append.mpr (.inr (by rw [ei]; exact List.mem_singleton.mpr rfl)))
    | _ => cases h
theorem isPlaces_of {d : PyData} {m : Nat} (h : isPlaces d m = true) : ∃ R : List Nat, d = ln R ∧ (∀ r ∈ R, r < m) ∧ R.Nodup := by
  cases d with
  | list xs =>
    obtain ⟨R, rfl, h1, h2⟩ := of_places h
    exact ⟨R, rfl, fun r hr => (h1 r hr).1, h2⟩
  | _ => cases h
theorem ht_turned (h : S_turned c ds r) : HT K E (t_turned K c E) (env0 N_turned ds) (Post r) := by
  rcases h with ⟨R, Q, n, q, n1, n8, g, rfl, rfl⟩ | ⟨d, e, rfl, hd, he, hk, rfl⟩
  · show HT K E _ [.da (ln R), .da (ln Q), .no, .no] _
    have lR : (lnL R).length = n := by rw [List.length_map, q.len]
    have lQ : (lnL Q).length = Q.length := by rw [List.length_map]
    have gl := g.le
    have g2 := g.two
    refine ht_seq (ht_if (b := false) (evt_eq (et_or (et_not (et_B (ev_isi (ev_var rfl) (kit_list _)))) fun _ => et_or (et_not (et_test (ev_leLe ev_int (ev_lenL (ev_var rfl)) ev_int))) fun _ => et_not (et_B (ev_call (ea_cons (ev_var rfl) (ea_cons (ev_lenL (ev_var rfl)) ea_nil)) ⟨ln R, n, by rw [lR], okR_ln (by rw [q.len]; omega), rfl⟩))) ?_) (fun z => nomatch z) fun _ => ht_next ?_)
    · rw [places_ln q.lt q.nd, lR]
      simp [isList]; omega
    refine ht_seq (ht_if (b := false) (evt_eq (et_or (et_not (et_B (ev_call (ea_cons (ev_var rfl) (ea_cons (ev_lenL (ev_var rfl)) ea_nil)) ⟨ln Q, n, by rw [lR], okR_ln (by omega), rfl⟩))) fun _ => et_test (ev_lt (ev_lenL (ev_var rfl)) ev_int)) ?_) (fun z => nomatch z) fun _ => ht_next ?_)
    · rw [places_ln g.lt g.nd, lQ]
      simp; omega
    refine ht_seq (ht_asgO (eo_list (ev_var rfl)) ?_)
    refine ht_seq (ht_forR (n := (Q.length : Int)) (fun i Γ' => ∃ s, Γ' = [.da (ln R), .da (ln Q), .ow (lnL (turnGo R Q i)), s]) (ea_cons (evd_eq (ev_lenL (ev_var rfl)) (by rw [lQ])) ea_nil) (by omega) ⟨_, rfl⟩ ?_ ?_)
    · rintro i Γ' hi ⟨s, rfl⟩
      have hi : i < Q.length := by omega
      show HT K E _ [.da (ln R), .da (ln Q), .ow (lnL (turnGo R Q i)), .da (.int (i : Int))] _
      have hm : (i + 1) % Q.length < Q.length := Nat.mod_lt _ (by omega)
      have a1 : Q.getD i 0 < n := g.lt _ (getD_mem hi)
      have a2 : Q.getD ((i + 1) % Q.length) 0 < n := g.lt _ (getD_mem hm)
      refine ht_set (k := ((Q.getD i 0 : Nat) : Int)) rfl (ev_roomOf q (ev_var rfl) (ev_room (i := (i + 1) % Q.length) (ev_var rfl) (evd_eq (ev_mod (ev_add (ev_var rfl) ev_int) (ev_lenL (ev_var rfl)) (by rw [lQ]; omega)) ?_) hm) a2) (ev_room (ev_var rfl) (ev_var rfl) hi) (by omega) ?_ ?_
      · rw [lQ]
        exact congrArg PyData.int (by push_cast; rfl)
      · rw [List.length_map, turnGo_len, q.len]; omega
      · refine ⟨.da (.int (i : Int)), ?_⟩
        show [Sl.da (ln R), .da (ln Q), .ow (((turnGo R Q i).map fun r : Nat => PyData.int (r : Int)).set ((Q.getD i 0 : Nat) : Int).toNat (.int ((R.getD (Q.getD ((i + 1) % Q.length) 0) 0 : Nat) : Int))), .da (.int (i : Int))] = _
        rw [Int.toNat_natCast, ← List.map_set]
        rfl
    · rintro Γ' ⟨s, rfl⟩
      refine ht_retS rfl ?_
      rw [Int.toNat_natCast]
      rfl
  · show HT K E _ [.da d, .da e, .no, .no] _
    by_cases hl : isList d = true
    · obtain ⟨xs, rfl⟩ := of_list hl hd.1
      have hk' : turnOk (.list xs) e = (decide (1 ≤ xs.length) && decide (xs.length ≤ 8) && isPlaces (.list xs) xs.length && isPlaces e xs.length && decide (2 ≤ lenD e)) := rfl
      refine ht_seq (ht_if (et_or (et_not (et_B (ev_isi (ev_var rfl) (kit_list _)))) fun _ => et_or (et_not (et_test (ev_leLe ev_int (ev_lenL (ev_var rfl)) ev_int))) fun _ => et_not (et_B (ev_call (ea_cons (ev_var rfl) (ea_cons (ev_lenL (ev_var rfl)) ea_nil)) ⟨.list xs, xs.length, rfl, hd, rfl⟩))) (fun h => ht_raise rfl) (fun h => ht_next ?_))
      have h1 : 1 ≤ xs.length ∧ xs.length ≤ 8 ∧ isPlaces (.list xs) xs.length = true := by
        simp [isList] at h
        refine ⟨by omega, by omega, h.2⟩
      have ep : EvD K (tCall (spOf K (S_are_places c)) [] E (tCons (tVar 1) (tCons (tCB (rLenV K) (tCons (tVar 0) tNil)) tNil))) [.da (.list xs), .da e, .no, .no] (.bool (isPlaces e xs.length)) :=
        ev_call (ea_cons (ev_var rfl) (ea_cons (ev_lenL (ev_var rfl)) ea_nil)) ⟨e, xs.length, rfl, he, rfl⟩
      by_cases hp : isPlaces e xs.length = true
      · obtain ⟨Q, rfl, _, _⟩ := isPlaces_of hp
        refine ht_seq (ht_if (b := true) (evt_eq (et_or (et_not (et_B ep)) fun _ => et_test (ev_lt (ev_lenL (ev_var rfl)) ev_int)) ?_) (fun _ => ht_raise rfl) (fun z => nomatch z))
        rw [hk', h1.2.2, hp] at hk
        have : lenD (ln Q) = Q.length := by show (Q.map _).length = _; rw [List.length_map]
        rw [this] at hk
        simp [h1.1, h1.2.1] at hk
        rw [hp, List.length_map]
        simp
        omega
      · have hp' : isPlaces e xs.length = false := by simpa using hp
        refine ht_seq (ht_if (b := true) (evt_eq (et_or (b := false) (et_not (et_B ep)) fun z => ?_) (by rw [hp']; rfl)) (fun _ => ht_raise rfl) (fun z => nomatch z))
        rw [hp'] at z; cases z
    · have hl' : isList d = false := by simpa using hl
      refine ht_seq (ht_if (b := true) (evt_eq (et_or (b := false) (et_not (et_B (ev_isi (ev_var rfl) (kit_list _)))) fun e => ?_) (by rw [hl']; rfl)) (fun _ => ht_raise rfl) (fun z => nomatch z))
      rw [hl'] at e; cases e

/-! ### ways -/
abbrev Wy := Nat → Nat → Int × List Nat
abbrev wpD (x : Int × List Nat) : PyData := .tuple [.int x.1, ln x.2]
def rowD (n : Nat) (f : Nat → Int × List Nat) : PyData := .list ((List.range n).map fun j => wpD (f j))
def wyD (n : Nat) (w : Wy) : PyData := .list ((List.range n).map fun i => rowD n (w i))
theorem range_getD {n i d : Nat} (h : i < n) : (List.range n).getD i d = i := by
  rw [List.getD_eq_getElem?_getD, List.getElem?_range h]; rfl
theorem ev_rowAt {n j : Nat} {f : Nat → Int × List Nat} (ha : EvD K ta Γ (rowD n f)) (hb : EvD K tb Γ (.int (j : Int))) (h : j < n) : EvD K (tOp (rIx K) ta tb) Γ (wpD (f j)) :=
  ev_ixL ha hb (by
    have := atI_map (f := fun j => wpD (f j)) (xs := List.range n) (i := (j : Int)) (by omega) (by simp; omega) 0
    rwa [Int.toNat_natCast, range_getD h] at this)
theorem ev_wyAt {n i : Nat} {w : Wy} (ha : EvD K ta Γ (wyD n w)) (hb : EvD K tb Γ (.int (i : Int))) (h : i < n) : EvD K (tOp (rIx K) ta tb) Γ (rowD n (w i)) :=
  ev_ixL ha hb (by
    have := atI_map (f := fun i => rowD n (w i)) (xs := List.range n) (i := (i : Int)) (by omega) (by simp; omega) 0
    rwa [Int.toNat_natCast, range_getD h] at this)
theorem ev_fst {x : Int × List Nat} (ha : EvD K ta Γ (wpD x)) : EvD K (tOp (rIx K) ta (tC (.int 0))) Γ (.int x.1) := ev_ixT ha ev_int rfl
theorem ev_snd {x : Int × List Nat} (ha : EvD K ta Γ (wpD x)) : EvD K (tOp (rIx K) ta (tC (.int 1))) Γ (ln x.2) := ev_ixT ha ev_int rfl
theorem shp_wp (x : Int × List Nat) : Shp 2 (wpD x) := shp_tup fun y hy => by
  rcases List.mem_cons.mp hy with e | e
  · subst e; exact (shp_int _).up (by decide)
  · rcases List.mem_cons.mp e with e | e
    · subst e; exact shp_ln _
    · cases e
theorem shp_row (n : Nat) (f : Nat → Int × List Nat) : Shp 3 (rowD n f) := shp_list fun j _ => shp_wp (f j)
theorem shp_wy (n : Nat) (w : Wy) : Shp 4 (wyD n w) := shp_list fun i _ => shp_row n (w i)

def w0 (W : List (List Int)) (R : List Nat) : Wy := fun i j => if i = j then (0, [i]) else (gn W R i j, [i, j])
def S_first_ways (c : CA) (ds : List PyData) (r : Res) : Prop := ∃ (W : List (List Int)) (R : List Nat) (n : Nat), Tab W n ∧ Rms R n ∧ ds = [PD.tb W, ln R] ∧ r = .ok (wyD n (w0 W R))
abbrev t_first_ways (K : PySem.W.Frag) (c : CA) (E : XK) : TS :=
  (tSeq (tAsg (tLst tNil) (gName 2))
    (tSeq (tFor (iRng1 (tCons (tCB (rLenV K) (tCons (tVar 1) tNil)) tNil)) (gName 3) (tSeq (tAsg (tLst tNil) (gName 4))
    (tSeq (tFor (iRng1 (tCons (tCB (rLenV K) (tCons (tVar 1) tNil)) tNil)) (gName 5) (tIfS (tTest (tOp (rEq2 K) (tVar 3) (tVar 5))) (tDrop (tBM K "list" rAppend (tVar 4) (tCons (tTup (tCons (tC (.int 0)) (tCons (tLst (tCons (tVar 3) tNil)) tNil))) tNil))) (tDrop (tBM K "list" rAppend (tVar 4) (tCons (tTup (tCons (tCall (spOf K (S_step c)) [] E (tCons (tVar 0) (tCons (tVar 1) (tCons (tVar 3) (tCons (tVar 5) tNil))))) (tCons (tLst (tCons (tVar 3) (tCons (tVar 5) tNil))) tNil))) tNil)))))
    (tDrop (tBM K "list" rAppend (tVar 2) (tCons (tVar 4) tNil))))))
    (tRet (tVar 2))))
abbrev N_first_ways : List Str := ["wishes", "rooms", "ways", "one", "row", "other"]
theorem ev_step {W : List (List Int)} {R : List Nat} {n i j : Nat} {t0 t1 t2 t3 : TE} (t : Tab W n) (q : Rms R n) (hi : i < n) (hj : j < n) (h0 : EvD K t0 Γ (PD.tb W)) (h1 : EvD K t1 Γ (ln R)) (h2 : EvD K t2 Γ (.int (i : Int))) (h3 : EvD K t3 Γ (.int (j : Int))) :
    EvD K (tCall (spOf K (S_step c)) [] E (tCons t0 (tCons t1 (tCons t2 (tCons t3 tNil))))) Γ (.int (gn W R i j)) := ev_call (ea_cons h0 (ea_cons h1 (ea_cons h2 (ea_cons h3 ea_nil)))) ⟨W, R, n, i, j, t, q, hi, hj, rfl, rfl⟩
theorem ht_first_ways (h : S_first_ways c ds r) : HT K E (t_first_ways K c E) (env0 N_first_ways ds) (Post r) := by
  obtain ⟨W, R, n, t, q, rfl, rfl⟩ := h
  show HT K E _ [.da (PD.tb W), .da (ln R), .no, .no, .no, .no] _
  have n8 := t.hi
  have lR : (lnL R).length = n := by rw [List.length_map, q.len]
  refine ht_seq (ht_asgO (eo_lst ea_nil (by decide)) ?_)
  refine ht_seq (ht_forR (n := (n : Int)) (fun i Γ' => ∃ s3 s4 s5, Γ' = [.da (PD.tb W), .da (ln R), .ow ((List.range i).map fun i => rowD n (w0 W R i)), s3, s4, s5]) (ea_cons (evd_eq (ev_lenL (ev_var rfl)) (by rw [lR])) ea_nil) (by omega) ⟨_, _, _, rfl⟩ ?_ ?_)
  · rintro i Γ' hi ⟨s3, s4, s5, rfl⟩
    have hi : i < n := by omega
    refine ht_seq (ht_asgO (eo_lst ea_nil (by decide)) ?_)
    refine ht_seq (ht_forR (n := (n : Int)) (fun j Γ' => ∃ s5, Γ' = [.da (PD.tb W), .da (ln R), .ow ((List.range i).map fun i => rowD n (w0 W R i)), .da (.int (i : Int)), .ow ((List.range j).map fun j => wpD (w0 W R i j)), s5]) (ea_cons (evd_eq (ev_lenL (ev_var rfl)) (by rw [lR])) ea_nil) (by omega) ⟨_, rfl⟩ ?_ ?_)
    · rintro j Γ' hj ⟨s5, rfl⟩
      have hj : j < n := by omega
      show HT K E _ [.da (PD.tb W), .da (ln R), .ow _, .da (.int (i : Int)), .ow _, .da (.int (j : Int))] _
      have fin : ∀ x, w0 W R i j = x → Turn1 (fun j Γ' => ∃ s5, Γ' = [.da (PD.tb W), .da (ln R), .ow ((List.range i).map fun i => rowD n (w0 W R i)), .da (.int (i : Int)), .ow ((List.range j).map fun j => wpD (w0 W R i j)), s5]) j
          (Then K E (tDrop (tBM K "list" rAppend (tVar 2) (tCons (tVar 4) tNil))) (Turn1 (fun i Γ' => ∃ s3 s4 s5, Γ' = [.da (PD.tb W), .da (ln R), .ow ((List.range i).map fun i => rowD n (w0 W R i)), s3, s4, s5]) i (Then K E (tRet (tVar 2)) (Post (.ok (wyD n (w0 W R)))))))
          (.nx [.da (PD.tb W), .da (ln R), .ow ((List.range i).map fun i => rowD n (w0 W R i)), .da (.int (i : Int)), .ow ((List.range j).map (fun j => wpD (w0 W R i j)) ++ [wpD x]), .da (.int (j : Int))]) := fun x hx =>
        ⟨.da (.int (j : Int)), by rw [List.range_succ, List.map_append, ← hx]; rfl⟩
      refine ht_if (et_test (ev_eqI (ev_var rfl) (ev_var rfl))) (fun h => ?_) (fun h => ?_)
      · have h : i = j := by have := of_decide_eq_true h; omega
        refine ht_app (d := wpD (0, [i])) rfl (ev_tup (ea_cons ev_int (ea_cons (EvO.toD (eo_lst (ea_cons (ev_var rfl) ea_nil) (by simp))) ea_nil)) (by simp)) (by simp; omega) (fin _ (by simp [w0, h]))
      · have h : ¬ i = j := by have := of_decide_eq_false h; omega
        refine ht_app (d := wpD (gn W R i j, [i, j])) rfl (ev_tup (ea_cons (ev_step t q hi hj (ev_var rfl) (ev_var rfl) (ev_var rfl) (ev_var rfl)) (ea_cons (EvO.toD (eo_lst (ea_cons (ev_var rfl) (ea_cons (ev_var rfl) ea_nil)) (by simp))) ea_nil)) (by simp)) (by simp; omega) (fin _ (by simp [w0, h]))
    · rintro Γ' ⟨s5, rfl⟩
      rw [Int.toNat_natCast]
      refine ht_frz (i := 4) rfl ?_
      refine ht_app (d := rowD n (w0 W R i)) rfl (ev_var rfl) (by simp; omega) ⟨.da (.int (i : Int)), .da (rowD n (w0 W R i)), s5, ?_⟩
      rw [List.range_succ, List.map_append]; rfl
  · rintro Γ' ⟨s3, s4, s5, rfl⟩
    rw [Int.toNat_natCast]
    refine ht_frz (i := 2) rfl ?_
    exact ht_ret (ev_var rfl) rfl

def best1 (W : List (List Int)) (R : List Nat) (row : Nat → Int × List Nat) (j : Nat) : Nat → Int × List Nat
  | 0 => row j
  | m + 1 => if (best1 W R row j m).1 < (row m).1 + gn W R m j then ((row m).1 + gn W R m j, (row m).2 ++ [j]) else best1 W R row j m
def lgRow (W : List (List Int)) (R : List Nat) (n : Nat) (row : Nat → Int × List Nat) : Nat → Int × List Nat := fun j => best1 W R row j n
def lg (W : List (List Int)) (R : List Nat) (n : Nat) (w : Wy) : Wy := fun i => lgRow W R n (w i)
def S_longer_row (c : CA) (ds : List PyData) (r : Res) : Prop := ∃ (W : List (List Int)) (R : List Nat) (n : Nat) (row : Nat → Int × List Nat), Tab W n ∧ Rms R n ∧ (∀ j, j < n → (row j).2.length ≤ 1000) ∧ ds = [PD.tb W, ln R, rowD n row] ∧ r = .ok (rowD n (lgRow W R n row))
abbrev t_longer_row (K : PySem.W.Frag) (c : CA) (E : XK) : TS :=
  (tSeq (tAsg (tLst tNil) (gName 3))
    (tSeq (tFor (iRng1 (tCons (tCB (rLenV K) (tCons (tVar 1) tNil)) tNil)) (gName 4) (tSeq (tAsg (tOp (rIx K) (tVar 2) (tVar 4)) (gName 5))
    (tSeq (tFor (iRng1 (tCons (tCB (rLenV K) (tCons (tVar 1) tNil)) tNil)) (gName 6) (tSeq (tAsg (tOp rAdd3 (tOp (rIx K) (tOp (rIx K) (tVar 2) (tVar 6)) (tC (.int 0))) (tCall (spOf K (S_step c)) [] E (tCons (tVar 0) (tCons (tVar 1) (tCons (tVar 6) (tCons (tVar 4) tNil)))))) (gName 7))
    (tIfS (tTest (tOp rGtI (tVar 7) (tOp (rIx K) (tVar 5) (tC (.int 0))))) (tAsg (tTup (tCons (tVar 7) (tCons (tOp rAdd3 (tOp (rIx K) (tOp (rIx K) (tVar 2) (tVar 6)) (tC (.int 1))) (tLst (tCons (tVar 4) tNil))) tNil))) (gName 5)) tNext)))
    (tDrop (tBM K "list" rAppend (tVar 3) (tCons (tVar 5) tNil))))))
    (tRet (tVar 3))))
abbrev N_longer_row : List Str := ["wishes", "rooms", "row", "found", "other", "top", "middle", "worth"]
theorem best1_len {W : List (List Int)} {R : List Nat} {row : Nat → Int × List Nat} {j n l : Nat} (hj : j < n) (h : ∀ j, j < n → (row j).2.length ≤ l) : ∀ m, m ≤ n → (best1 W R row j m).2.length ≤ l + 1
  | 0, _ => Nat.le_succ_of_le (h j hj)
  | m + 1, hm => by
    unfold best1
    split
    · have := h m (by omega); simp; omega
    · exact best1_len hj h m (by omega)
theorem ht_longer_row (h : S_longer_row c ds r) : HT K E (t_longer_row K c E) (env0 N_longer_row ds) (Post r) := by
  obtain ⟨W, R, n, row, t, q, hl, rfl, rfl⟩ := h
  show HT K E _ [.da (PD.tb W), .da (ln R), .da (rowD n row), .no, .no, .no, .no, .no] _
  have n8 := t.hi
  have lR : (lnL R).length = n := by rw [List.length_map, q.len]
  refine ht_seq (ht_asgO (eo_lst ea_nil (by decide)) ?_)
  refine ht_seq (ht_forR (n := (n : Int)) (fun j Γ' => ∃ s4 s5 s6 s7, Γ' = [.da (PD.tb W), .da (ln R), .da (rowD n row), .ow ((List.range j).map fun j => wpD (lgRow W R n row j)), s4, s5, s6, s7]) (ea_cons (evd_eq (ev_lenL (ev_var rfl)) (by rw [lR])) ea_nil) (by omega) ⟨_, _, _, _, rfl⟩ ?_ ?_)
  · rintro j Γ' hj ⟨s4, s5, s6, s7, rfl⟩
    have hj : j < n := by omega
    refine ht_seq (ht_asg (ev_rowAt (ev_var rfl) (ev_var rfl) hj) ?_)
    refine ht_seq (ht_forR (n := (n : Int)) (fun m Γ' => ∃ s6 s7, Γ' = [.da (PD.tb W), .da (ln R), .da (rowD n row), .ow ((List.range j).map fun j => wpD (lgRow W R n row j)), .da (.int (j : Int)), .da (wpD (best1 W R row j m)), s6, s7]) (ea_cons (evd_eq (ev_lenL (ev_var rfl)) (by rw [lR])) ea_nil) (by omega) ⟨_, _, rfl⟩ ?_ ?_)
    · rintro m Γ' hm ⟨s6, s7, rfl⟩
      have hm : m < n := by omega
      refine ht_seq (ht_asg (ev_add (ev_fst (ev_rowAt (ev_var rfl) (ev_var rfl) hm)) (ev_step t q hm hj (ev_var rfl) (ev_var rfl) (ev_var rfl) (ev_var rfl))) ?_)
      refine ht_if (et_test (ev_gt (ev_var rfl) (ev_fst (ev_var rfl)))) (fun h => ?_) (fun h => ?_)
      · have h := of_decide_eq_true h
        have e : best1 W R row j (m + 1) = ((row m).1 + gn W R m j, (row m).2 ++ [j]) := by rw [best1, if_pos h]
        refine ht_asg (d := wpD ((row m).1 + gn W R m j, (row m).2 ++ [j])) (ev_tup (ea_cons (ev_var rfl) (ea_cons (evd_eq (EvO.toD (ev_cat (ev_snd (ev_rowAt (ev_var rfl) (ev_var rfl) hm)) (EvO.toD (eo_lst (ea_cons (ev_var rfl) ea_nil) (by simp))) ?_)) ?_) ea_nil)) (by simp)) ⟨.da (.int (m : Int)), .da (.int ((row m).1 + gn W R m j)), ?_⟩
        · have := hl m hm; simp; omega
        · show PyData.list (lnL _ ++ [.int (j : Int)]) = .list (lnL _)
          simp
        · rw [e]; rfl
      · have h := of_decide_eq_false h
        have e : best1 W R row j (m + 1) = best1 W R row j m := by rw [best1, if_neg h]
        exact ht_next ⟨.da (.int (m : Int)), .da (.int ((row m).1 + gn W R m j)), by rw [e]; rfl⟩
    · rintro Γ' ⟨s6, s7, rfl⟩
      rw [Int.toNat_natCast]
      refine ht_app (d := wpD (lgRow W R n row j)) rfl (ev_var rfl) (by simp; omega) ⟨.da (.int (j : Int)), .da (wpD (lgRow W R n row j)), s6, s7, ?_⟩
      rw [List.range_succ, List.map_append]; rfl
  · rintro Γ' ⟨s4, s5, s6, s7, rfl⟩
    rw [Int.toNat_natCast]
    refine ht_frz (i := 3) rfl ?_
    exact ht_ret (ev_var rfl) rfl

def S_longer (c : CA) (ds : List PyData) (r : Res) : Prop := ∃ (W : List (List Int)) (R : List Nat) (n : Nat) (w : Wy), Tab W n ∧ Rms R n ∧ (∀ i j, i < n → j < n → (w i j).2.length ≤ 1000) ∧ ds = [PD.tb W, ln R, wyD n w] ∧ r = .ok (wyD n (lg W R n w))
abbrev t_longer (K : PySem.W.Frag) (c : CA) (E : XK) : TS :=
  (tRet (tLc (iList K (tVar 2)) (gName 3) tYes (tCall (spOf K (S_longer_row c)) [] E0 (tCons (tVar 0) (tCons (tVar 1) (tCons (tVar 3) tNil)))) [3]))
abbrev N_longer : List Str := ["wishes", "rooms", "ways", "row"]
theorem ht_longer (h : S_longer c ds r) : HT K E (t_longer K c E) (env0 N_longer ds) (Post r) := by
  obtain ⟨W, R, n, w, t, q, hl, rfl, rfl⟩ := h
  show HT K E _ [.da (PD.tb W), .da (ln R), .da (wyD n w), .no] _
  have n8 := t.hi
  refine ht_ret (EvO.toD (eo_mapL (List.range n) (fun i => rowD n (w i)) (fun i => rowD n (lg W R n w i)) (ev_var rfl) (by simp; omega) fun i hi => ?_)) rfl
  have hi : i < n := by simpa using hi
  exact ev_call (ea_cons (ev_var rfl) (ea_cons (ev_var rfl) (ea_cons (ev_var rfl) ea_nil))) ⟨W, R, n, w i, t, q, fun j hj => hl i j hi hj, rfl, rfl⟩

def ringL (w : Wy) : List Nat → Option (List Nat)
  | [] => none
  | i :: is => if 0 < (w i i).1 then some (w i i).2.dropLast else ringL w is
def ringIn (n : Nat) (w : Wy) : Option (List Nat) := ringL w (List.range n)
def ringD : Option (List Nat) → PyData
  | none => .none
  | some r => ln r
theorem isNone_ringD (o : Option (List Nat)) : isNone (ringD o) = o.isNone := by cases o <;> rfl
def S_ring_in (c : CA) (ds : List PyData) (r : Res) : Prop := ∃ (n : Nat) (w : Wy), n ≤ 8 ∧ ds = [wyD n w] ∧ r = .ok (ringD (ringIn n w))
abbrev t_ring_in (K : PySem.W.Frag) (c : CA) (E : XK) : TS :=
  (tSeq (tFor (iRng1 (tCons (tCB (rLenV K) (tCons (tVar 0) tNil)) tNil)) (gName 1) (tIfS (tTest (tOp rGtI (tOp (rIx K) (tOp (rIx K) (tOp (rIx K) (tVar 0) (tVar 1)) (tVar 1)) (tC (.int 0))) (tC (.int 0)))) (tRet (tSl (rSlL K) (tOp (rIx K) (tOp (rIx K) (tOp (rIx K) (tVar 0) (tVar 1)) (tVar 1)) (tC (.int 1))) tNoPart (tPart (tUn (rU fun i => .int (-i)) (tC (.int 1)))))) tNext))
    (tRet (tC .non)))
abbrev N_ring_in : List Str := ["ways", "one"]
theorem range_drop {n i : Nat} (h : i < n) : (List.range n).drop i = i :: (List.range n).drop (i + 1) := by
  rw [List.drop_eq_getElem_cons (by simpa using h), List.getElem_range]
theorem cut_last (xs : List PyData) : cutD xs none (some (-1)) = xs.dropLast := by
  have e1 : _root_.HT.sIx xs.length 0 none = 0 := rfl
  have e2 : _root_.HT.sIx xs.length xs.length (some (-1)) = xs.length - 1 := by
    show (if (-1 : Int) < 0 then ((-1 : Int) + (xs.length : Int)).toNat else min (-1 : Int).toNat xs.length) = _
    rw [if_pos (by decide)]
    omega
  unfold cutD
  rw [e1, e2, List.drop_zero, Nat.sub_zero, List.dropLast_eq_take]
theorem ht_ring_in (h : S_ring_in c ds r) : HT K E (t_ring_in K c E) (env0 N_ring_in ds) (Post r) := by
  obtain ⟨n, w, n8, rfl, rfl⟩ := h
  show HT K E _ [.da (wyD n w), .no] _
  refine ht_seq (ht_forR (n := (n : Int)) (fun i Γ' => ∃ s, Γ' = [.da (wyD n w), s] ∧ ringIn n w = ringL w ((List.range n).drop i)) (ea_cons (evd_eq (ev_lenL (ds := (List.range n).map fun i => rowD n (w i)) (ev_var rfl)) (by simp)) ea_nil) (by omega) ⟨_, rfl, rfl⟩ ?_ ?_)
  · rintro i Γ' hi ⟨s, rfl, hr⟩
    have hi : i < n := by omega
    rw [range_drop hi] at hr
    refine ht_if (et_test (ev_gt (ev_fst (ev_rowAt (ev_wyAt (ev_var rfl) (ev_var rfl) hi) (ev_var rfl) hi)) ev_int)) (fun h => ?_) (fun h => ?_)
    · have h := of_decide_eq_true h
      refine ht_ret (EvO.toD (eo_cut (ev_snd (ev_rowAt (ev_wyAt (ev_var rfl) (ev_var rfl) hi) (ev_var rfl) hi)) ep_none (ep_some (ev_neg ev_int)))) ?_
      show PyData.list _ = ringD (ringIn n w)
      rw [hr, ringL, if_pos h, cut_last]
      simp [ringD, List.map_dropLast]
    · have h := of_decide_eq_false h
      refine ht_next ⟨_, rfl, ?_⟩
      rw [hr, ringL, if_neg h]
  · rintro Γ' ⟨s, rfl, hr⟩
    refine ht_ret ev_non ?_
    rw [Int.toNat_natCast] at hr
    show PyData.none = ringD (ringIn n w)
    rw [hr, List.drop_eq_nil_of_le (by simp)]
    rfl

def sameW (n : Nat) (f w : Wy) : Bool := PyData.eqv (wyD n f) (wyD n w)
def bwGo (W : List (List Int)) (R : List Nat) (n : Nat) : Nat → Wy → Option (List Nat) × Wy
  | 0, w => (none, w)
  | k + 1, w => match ringIn n (lg W R n w) with
    | some r => (some r, lg W R n w)
    | none => if sameW n (lg W R n w) w = true then (none, w) else bwGo W R n k (lg W R n w)
def bw (W : List (List Int)) (R : List Nat) (n : Nat) : Option (List Nat) × Wy := bwGo W R n n (w0 W R)
def S_best_ways (c : CA) (ds : List PyData) (r : Res) : Prop := ∃ (W : List (List Int)) (R : List Nat) (n : Nat), Tab W n ∧ Rms R n ∧ ds = [PD.tb W, ln R] ∧ r = .ok (.tuple [ringD (bw W R n).1, wyD n (bw W R n).2])
abbrev t_best_ways (K : PySem.W.Frag) (c : CA) (E : XK) : TS :=
  (tSeq (tAsg (tCall (spOf K (S_first_ways c)) [] E (tCons (tVar 0) (tCons (tVar 1) tNil))) (gName 2))
    (tSeq (tFor (iList K (tVar 1)) (gName 3) (tSeq (tAsg (tCall (spOf K (S_longer c)) [] E (tCons (tVar 0) (tCons (tVar 1) (tCons (tVar 2) tNil)))) (gName 4))
    (tSeq (tAsg (tCall (spOf K (S_ring_in c)) [] E (tCons (tVar 4) tNil)) (gName 5))
    (tSeq (tIfS (tTest (tOp rNotN (tVar 5) (tC .non))) (tRet (tTup (tCons (tVar 5) (tCons (tVar 4) tNil)))) tNext)
    (tSeq (tIfS (tTest (tOp (rEq2 K) (tVar 4) (tVar 2))) (tRet (tTup (tCons (tC .non) (tCons (tVar 2) tNil)))) tNext)
    (tAsg (tVar 4) (gName 2)))))))
    (tRet (tTup (tCons (tC .non) (tCons (tVar 2) tNil))))))
abbrev N_best_ways : List Str := ["wishes", "rooms", "ways", "turn", "fresh", "ring"]
theorem w0_len {W : List (List Int)} {R : List Nat} {i j : Nat} : (w0 W R i j).2.length ≤ 2 := by
  unfold w0; split <;> simp
theorem ht_best_ways (h : S_best_ways c ds r) : HT K E (t_best_ways K c E) (env0 N_best_ways ds) (Post r) := by
  obtain ⟨W, R, n, t, q, rfl, rfl⟩ := h
  show HT K E _ [.da (PD.tb W), .da (ln R), .no, .no, .no, .no] _
  have n8 := t.hi
  refine ht_seq (ht_asg (ev_call (ea_cons (ev_var rfl) (ea_cons (ev_var rfl) ea_nil)) ⟨W, R, n, t, q, rfl, rfl⟩) ?_)
  refine ht_seq (ht_forN R (fun r : Nat => .int (r : Int)) (fun i Γ' => ∃ w s3 s4 s5, Γ' = [.da (PD.tb W), .da (ln R), .da (wyD n w), s3, s4, s5] ∧ (∀ a b, a < n → b < n → (w a b).2.length ≤ i + 2) ∧ bw W R n = bwGo W R n (n - i) w) (ev_var rfl) ⟨w0 W R, _, _, _, rfl, fun a b _ _ => w0_len, rfl⟩ ?_ ?_)
  · rintro i x Γ' hi ⟨w, s3, s4, s5, rfl, hl, he⟩
    have hi : i < n := by rw [← q.len]; exact (List.getElem?_eq_some_iff.mp hi).1
    have hk : n - i = (n - (i + 1)) + 1 := by omega
    rw [hk, bwGo] at he
    refine ht_seq (ht_asg (ev_call (ea_cons (ev_var rfl) (ea_cons (ev_var rfl) (ea_cons (ev_var rfl) ea_nil))) ⟨W, R, n, w, t, q, fun a b ha hb => Nat.le_trans (hl a b ha hb) (by omega), rfl, rfl⟩) ?_)
    refine ht_seq (ht_asg (ev_call (ea_cons (ev_var rfl) ea_nil) ⟨n, lg W R n w, n8, rfl, rfl⟩) ?_)
    refine ht_seq (ht_if (et_test (ev_notN (ev_var rfl))) (fun h => ?_) (fun h => ht_next ?_))
    · rw [isNone_ringD] at h
      cases hr : ringIn n (lg W R n w) with
      | none => rw [hr] at h; cases h
      | some rr =>
        rw [hr] at he
        refine ht_ret (ev_tup (ea_cons (ev_var rfl) (ea_cons (ev_var rfl) ea_nil)) (by simp)) ?_
        show PyData.tuple _ = _
        rw [he]
    · rw [isNone_ringD] at h
      cases hr : ringIn n (lg W R n w) with
      | some rr => rw [hr] at h; cases h
      | none =>
        rw [hr] at he
        refine ht_seq (ht_if (et_test (ev_eqD (ev_var rfl) (ev_var rfl) (shp_wy n _).is (shp_wy n _).is)) (fun h => ?_) (fun h => ht_next ?_))
        · refine ht_ret (ev_tup (ea_cons ev_non (ea_cons (ev_var rfl) ea_nil)) (by simp)) ?_
          have he2 : bw W R n = if sameW n (lg W R n w) w = true then (none, w) else bwGo W R n (n - (i + 1)) (lg W R n w) := he
          rw [if_pos (show sameW n (lg W R n w) w = true from h)] at he2
          show PyData.tuple _ = _
          rw [he2]; rfl
        · have he2 : bw W R n = if sameW n (lg W R n w) w = true then (none, w) else bwGo W R n (n - (i + 1)) (lg W R n w) := he
          rw [if_neg (show ¬ sameW n (lg W R n w) w = true from fun z => Bool.false_ne_true (h.symm.trans z))] at he2
          refine ht_asg (ev_var rfl) ⟨lg W R n w, _, _, _, rfl, fun a b ha hb => ?_, he2⟩
          have := best1_len (W := W) (R := R) (row := w a) (j := b) (l := i + 2) hb (fun j hj => hl a j ha hj) n (Nat.le_refl _)
          exact Nat.le_trans this (by omega)
  · rintro Γ' ⟨w, s3, s4, s5, rfl, hl, he⟩
    rw [q.len, Nat.sub_self] at he
    refine ht_ret (ev_tup (ea_cons ev_non (ea_cons (ev_var rfl) ea_nil)) (by simp)) ?_
    show PyData.tuple _ = _
    rw [he]; rfl
end
end PD

set_option Elab.async false
set_option linter.all false
set_option maxRecDepth 100000
set_option maxHeartbeats 1000000
/-! More that the laws have in common. -/
namespace PD
open PySem L2
theorem cutD_take (ds : List PyData) (p : Nat) : cutD ds none (some (p : Int)) = ds.take p := by
  have e1 : _root_.HT.sIx ds.length 0 none = 0 := rfl
  unfold cutD
  rw [e1, _root_.HT.sIx_nat, List.drop_zero, Nat.sub_zero]
  by_cases h : p ≤ ds.length
  · rw [Nat.min_eq_left h]
  · rw [Nat.min_eq_right (by omega), List.take_length, List.take_of_length_le (by omega)]
theorem cutD_drop (ds : List PyData) (p : Nat) : cutD ds (some (p : Int)) none = ds.drop p := by
  have e1 : _root_.HT.sIx ds.length ds.length none = ds.length := rfl
  unfold cutD
  rw [e1, _root_.HT.sIx_nat]
  by_cases h : p ≤ ds.length
  · rw [Nat.min_eq_left h, List.take_of_length_le (by rw [List.length_drop]; omega)]
  · rw [Nat.min_eq_right (by omega), List.drop_length, List.drop_eq_nil_of_le (by omega)]; simp
section
variable {K : PySem.W.Frag} {c : CA} {E : XK} {Γ : Env} {ta tb te tl tp : TE} {ds : List PyData} {r : Res}
theorem eo_take {p : Nat} (h : EvD K tl Γ (.list ds)) (hp : EvD K tp Γ (.int (p : Int))) : EvO K (tSl (rSlL K) tl tNoPart (tPart tp)) Γ (ds.take p) :=
  evo_eq (eo_cut h ep_none (ep_some hp)) (cutD_take ds p)
theorem eo_drop {p : Nat} (h : EvD K tl Γ (.list ds)) (hp : EvD K tp Γ (.int (p : Int))) : EvO K (tSl (rSlL K) tl (tPart tp) tNoPart) Γ (ds.drop p) :=
  evo_eq (eo_cut h (ep_some hp) ep_none) (cutD_drop ds p)
/-- xs[:p] + [d] + xs[p + 1:] -/
theorem eo_spl {p : Nat} {d : PyData} (h : EvD K tl Γ (.list ds)) (hp : EvD K tp Γ (.int (p : Int))) (hd : EvD K te Γ d) (hl : p < ds.length) (hz : ds.length ≤ 1000) :
    EvO K (tOp rAdd3 (tOp rAdd3 (tSl (rSlL K) tl tNoPart (tPart tp)) (tLst (tCons te tNil))) (tSl (rSlL K) tl (tPart (tOp rAdd3 tp (tC (.int 1)))) tNoPart)) Γ (ds.set p d) := by
  refine evo_eq (ev_cat (EvO.toD (ev_cat (EvO.toD (eo_take h hp)) (EvO.toD (eo_lst (ea_cons hd ea_nil) (by simp))) ?_)) (EvO.toD (eo_drop (p := p + 1) h (evd_eq (ev_add hp ev_int) (congrArg PyData.int (by push_cast; rfl))))) ?_) ?_
  · simp; omega
  · simp; omega
  · rw [List.set_eq_take_append_cons_drop, if_pos hl]; simp
/-- a list of that many things, one picked by a number -/
theorem ev_pick {k : Nat} (ha : EvD K ta Γ (.list ds)) (hb : EvD K tb Γ (.int (k : Int))) (h : k < ds.length) : EvD K (tOp (rIx K) ta tb) Γ (ds.getD k .none) :=
  ev_ixL ha hb (by
    have := atI_map (f := id) (xs := ds) (i := (k : Int)) (by omega) (by omega) PyData.none
    rw [List.map_id, Int.toNat_natCast] at this
    exact this)
/-- xs[-1] at p = 0 -/
theorem ev_ahead {p : Nat} (ha : EvD K ta Γ (.list ds)) (hb : EvD K tb Γ (.int (p : Int))) (h : p < ds.length) : EvD K (tOp (rIx K) ta (tOp rSubI tb (tC (.int 1)))) Γ (ds.getD (if p = 0 then ds.length - 1 else p - 1) .none) := by
  refine ev_ixL ha (ev_sub hb ev_int) ?_
  rw [List.getD_eq_getElem?_getD]
  have e : ixN ds.length ((p : Int) - 1) = some (if p = 0 then ds.length - 1 else p - 1) := by
    unfold ixN
    by_cases hp : p = 0
    · subst hp
      rw [if_pos rfl, if_neg (by omega)]
      first
        | (rw [if_pos (by omega)]; congr 1; omega)
        | (simp; omega)
    · rw [if_neg hp, if_pos (by omega), if_pos (by omega)]
      congr 1
      omega
  have l : (if p = 0 then ds.length - 1 else p - 1) < ds.length := by split <;> omega
  unfold atI
  rw [e, List.getElem?_eq_getElem l]
  show ds[_]? = _
  rw [List.getElem?_eq_getElem l]
  rfl
end
/-! ### lent slots -/
theorem fix_da {Γ Γf : Env} {i : Nat} {d : PyData} (hf : Fixed Γ Γf) (h : Γ[i]? = some (.da d)) : ∃ v, Γf[i]? = some (.fx v (some d)) := by
  obtain ⟨y, e, f⟩ := hf.get h
  cases f with
  | da v d => exact ⟨v, e⟩
theorem fix_ow {Γ Γf : Env} {i : Nat} {ds : List PyData} (hf : Fixed Γ Γf) (h : Γ[i]? = some (.ow ds)) : ∃ v, Γf[i]? = some (.fx v (some (.list ds))) := by
  obtain ⟨y, e, f⟩ := hf.get h
  cases f with
  | ow p ds => exact ⟨_, e⟩
theorem set_same {α : Type} {l : List α} {j : Nat} {y : α} (h : l[j]? = some y) : l.set j y = l := by
  refine List.ext_getElem? fun i => ?_
  by_cases e : j = i
  · subst e
    rw [List.getElem?_set_self (List.getElem?_eq_some_iff.mp h).1, h]
  · rw [List.getElem?_set_ne e]
/-- behind a statement that stored slot j alone -/
theorem loan_set {Γ Γf : Env} {P : Out → Prop} {j : Nat} {s : Sl} (hf : Fixed Γ Γf) (p : P (.nx (Γ.set j .no))) : Loan Γ Γf P (.nx (Γf.set j s)) := by
  refine ⟨by rw [List.length_set, hf.len], Γ.set j .no, by rw [List.length_set], fun m x q => ?_, p⟩
  by_cases e : j = m
  · subst e
    have hm : j < Γ.length := by have := (List.getElem?_eq_some_iff.mp q).1; simpa using this
    rw [List.getElem?_set_self hm] at q
    cases q
    exact .inl rfl
  · rw [List.getElem?_set_ne e] at q
    exact .inr ⟨q, by rw [List.getElem?_set_ne e]⟩
/-! ### lists that are none of places -/
theorem lnL_inj {R Q : List Nat} (h : lnL R = lnL Q) : R = Q := by
  induction R generalizing Q with
  | nil => cases Q with
    | nil => rfl
    | cons q Q => cases h
  | cons r R ih => cases Q with
    | nil => cases h
    | cons q Q =>
      have h : (PyData.int (r : Int) :: lnL R) = (PyData.int (q : Int) :: lnL Q) := h
      injection h with h1 h2
      injection h1 with h1
      rw [ih h2]
      congr 1
      omega
theorem ln_inj {R Q : List Nat} (h : ln R = ln Q) : R = Q := by
  injection h with h
  exact lnL_inj h
/-- something that is no place stands in it -/
theorem no_places {xs : List PyData} {d : PyData} {m : Nat} (hm : d ∈ xs) (hd : placeOk d m = false) : isPlaces (.list xs) m = false := by
  refine Bool.eq_false_iff.mpr fun h => ?_
  obtain ⟨R, e, h1, _⟩ := isPlaces_of h
  injection e with e
  subst e
  obtain ⟨r, hr, rfl⟩ := List.mem_map.mp hm
  have := h1 r hr
  simp [placeOk] at hd
  omega
/-- the same thing stands at two places -/
theorem dup_places {xs : List PyData} {d : PyData} {m p q : Nat} (hp : xs[p]? = some d) (hq : xs[q]? = some d) (hn : p ≠ q) : isPlaces (.list xs) m = false := by
  refine Bool.eq_false_iff.mpr fun h => ?_
  obtain ⟨R, e, _, h2⟩ := isPlaces_of h
  injection e with e
  subst e
  rw [List.getElem?_map] at hp hq
  obtain ⟨a, ha, rfl⟩ := Option.map_eq_some_iff.mp hp
  obtain ⟨b, hb, e2⟩ := Option.map_eq_some_iff.mp hq
  have eb : b = a := by
    injection e2 with e2
    omega
  subst eb
  obtain ⟨hp1, hp2⟩ := List.getElem?_eq_some_iff.mp ha
  obtain ⟨hq1, hq2⟩ := List.getElem?_eq_some_iff.mp hb
  exact hn ((List.getElem_inj h2).mp (hp2.trans hq2.symm))
theorem long_places {xs : List PyData} {m : Nat} (h : m < xs.length) : isPlaces (.list xs) m = false := by
  refine Bool.eq_false_iff.mpr fun z => ?_
  obtain ⟨R, e, h1, h2⟩ := isPlaces_of z
  injection e with e
  subst e
  have := nodup_le h1 h2
  simp at h
  omega
theorem set_mem {α : Type} {xs : List α} {p : Nat} {d : α} (h : p < xs.length) : d ∈ xs.set p d := by
  refine List.mem_of_getElem? (i := p) ?_
  rw [List.getElem?_set_self h]
/-- xs with another one's thing at p -/
theorem dup_set {xs : List PyData} {m p q : Nat} (hp : p < xs.length) (hq : q < xs.length) (hn : p ≠ q) : isPlaces (.list (xs.set p (xs.getD q .none))) m = false := by
  refine dup_places (p := p) (q := q) (d := xs.getD q .none) (by rw [List.getElem?_set_self hp]) ?_ hn
  rw [List.getElem?_set_ne hn, List.getD_eq_getElem?_getD, List.getElem?_eq_getElem hq]
  rfl
/-- one cell's remainder as a number -/
theorem rem_of (x : Int) {m : Int} (hm : 0 < m) : ∃ k : Nat, x % m = (k : Int) ∧ (k : Int) < m := by
  have h1 := Int.emod_nonneg x (b := m) (by omega)
  have h2 := Int.emod_lt_of_pos x hm
  exact ⟨(x % m).toNat, by omega, by omega⟩
end PD

set_option Elab.async false
set_option linter.all false
set_option maxRecDepth 100000
set_option maxHeartbeats 1000000
/-! The plain law of ways and rings. -/
namespace PD
open PySem L2
/-! ### what a walk is worth -/
def cv (g : Nat → Nat → Int) : List Nat → Int
  | a :: b :: l => g a b + cv g (b :: l)
  | _ => 0
section
variable {g : Nat → Nat → Int}
theorem cv_snoc : ∀ {l : List Nat} {m j : Nat}, l.getLast? = some m → cv g (l ++ [j]) = cv g l + g m j
  | [], m, j, h => by simp at h
  | [a], m, j, h => by
    have h : a = m := by simpa using h
    subst h
    show g a j + 0 = 0 + g a j
    omega
  | a :: b :: l, m, j, h => by
    have h' : (b :: l).getLast? = some m := by rw [List.getLast?_cons_cons] at h; exact h
    have ih := cv_snoc (l := b :: l) (j := j) h'
    show g a b + cv g (b :: l ++ [j]) = g a b + cv g (b :: l) + g m j
    rw [ih]; omega
theorem cv_split : ∀ (a : List Nat) (j : Nat) (b : List Nat), cv g (a ++ j :: b) = cv g (a ++ [j]) + cv g (j :: b)
  | [], j, b => by show cv g (j :: b) = 0 + cv g (j :: b); omega
  | [x], j, b => by
    show g x j + cv g (j :: b) = g x j + 0 + cv g (j :: b)
    omega
  | x :: y :: a, j, b => by
    have ih := cv_split (y :: a) j b
    show g x y + cv g (y :: a ++ j :: b) = g x y + cv g (y :: a ++ [j]) + cv g (j :: b)
    rw [ih]; omega
end
/-- l leads from i to j -/
structure Walk (n : Nat) (l : List Nat) (i j : Nat) : Prop where
  hd : l.head? = some i
  la : l.getLast? = some j
  lt : ∀ x ∈ l, x < n
theorem Walk.ne {n : Nat} {l : List Nat} {i j : Nat} (h : Walk n l i j) : l ≠ [] := fun z => by
  have := h.hd
  rw [z] at this
  cases this
theorem Walk.snoc {n : Nat} {l : List Nat} {i m j : Nat} (h : Walk n l i m) (hj : j < n) : Walk n (l ++ [j]) i j := by
  refine ⟨?_, by simp, fun x hx => ?_⟩
  · rw [List.head?_append, h.hd]; rfl
  · rcases List.mem_append.mp hx with z | z
    · exact h.lt x z
    · rw [List.mem_singleton.mp z]; exact hj
theorem Walk.fst {n : Nat} {l : List Nat} {i j : Nat} (h : Walk n l i j) : i < n := h.lt i (List.mem_of_head? h.hd)
theorem Walk.lst {n : Nat} {l : List Nat} {i j : Nat} (h : Walk n l i j) : j < n := h.lt j (List.mem_of_getLast? h.la)
theorem walk_one {n i : Nat} (h : i < n) : Walk n [i] i i := ⟨rfl, rfl, fun x hx => by rw [List.mem_singleton.mp hx]; exact h⟩
theorem getLast_split : ∀ {l : List Nat} {j : Nat}, l.getLast? = some j → ∃ l', l = l' ++ [j]
  | [], j, h => by simp at h
  | [a], j, h => ⟨[], by have : a = j := by simpa using h
                         rw [this]; rfl⟩
  | a :: b :: l, j, h => by
    rw [List.getLast?_cons_cons] at h
    obtain ⟨l', e⟩ := getLast_split h
    exact ⟨a :: l', by rw [e]; rfl⟩
/-- the last step of a walk -/
theorem Walk.back {n : Nat} {l : List Nat} {i j : Nat} (h : Walk n l i j) : (l = [j] ∧ i = j) ∨ ∃ l' m, l = l' ++ [j] ∧ Walk n l' i m := by
  obtain ⟨l', e⟩ := getLast_split h.la
  subst e
  cases hl : l' with
  | nil =>
    subst hl
    have := h.hd
    left
    refine ⟨rfl, ?_⟩
    simpa using this.symm
  | cons a t =>
    right
    have hne : l' ≠ [] := by rw [hl]; exact List.cons_ne_nil _ _
    rw [← hl]
    refine ⟨l', l'.getLast hne, rfl, ?_, List.getLast?_eq_some_getLast hne, fun x hx => h.lt x (List.mem_append.mpr (.inl hx))⟩
    have := h.hd
    rw [List.head?_append] at this
    rw [hl] at this ⊢
    exact this
section
variable {W : List (List Int)} {R : List Nat} {n : Nat}
theorem gn_self (i : Nat) : gn W R i i = 0 := by unfold gn; omega
/-! ### one more lodger -/
theorem best1_ge {row : Nat → Int × List Nat} {j : Nat} : ∀ m, (row j).1 ≤ (best1 W R row j m).1
  | 0 => Int.le_refl _
  | m + 1 => by
    have ih := best1_ge (row := row) (j := j) m
    unfold best1
    split
    · rename_i h; show (row j).1 ≤ (row m).1 + gn W R m j; omega
    · exact ih
theorem best1_all {row : Nat → Int × List Nat} {j : Nat} : ∀ m m', m' < m → (row m').1 + gn W R m' j ≤ (best1 W R row j m).1
  | 0, m', h => absurd h (Nat.not_lt_zero _)
  | m + 1, m', h => by
    unfold best1
    by_cases e : m' = m
    · subst e
      split
      · exact Int.le_refl _
      · rename_i z; omega
    · have ih := best1_all (row := row) (j := j) m m' (by omega)
      split
      · rename_i z; show _ ≤ (row m).1 + gn W R m j; omega
      · exact ih
theorem best1_cases {row : Nat → Int × List Nat} {j : Nat} : ∀ m, best1 W R row j m = row j ∨ ∃ m', m' < m ∧ best1 W R row j m = ((row m').1 + gn W R m' j, (row m').2 ++ [j]) ∧ (row j).1 < (row m').1 + gn W R m' j
  | 0 => .inl rfl
  | m + 1 => by
    have ge := best1_ge (W := W) (R := R) (row := row) (j := j) m
    unfold best1
    split
    · rename_i z
      exact .inr ⟨m, Nat.lt_succ_self m, rfl, by omega⟩
    · rcases best1_cases (row := row) (j := j) m with h | ⟨m', h1, h2, h3⟩
      · exact .inl h
      · exact .inr ⟨m', by omega, h2, h3⟩
/-! ### layers -/
structure Lay (W : List (List Int)) (R : List Nat) (n k : Nat) (w : Wy) : Prop where
  wk : ∀ i j, i < n → j < n → Walk n (w i j).2 i j
  cv : ∀ i j, i < n → j < n → cv (gn W R) (w i j).2 = (w i j).1
  top : ∀ l i j, Walk n l i j → l.length ≤ k + 2 → PD.cv (gn W R) l ≤ (w i j).1
  nd : ∀ i j, i < n → j < n → (w i j).2.Nodup
  dg : ∀ i, i < n → (w i i).1 ≤ 0
  len : ∀ i j, i < n → j < n → (w i j).2.length ≤ k + 2
  low : ∀ i j, i < n → j < n → (w i j).2.length = k + 2 ∨ ∃ l, Walk n l i j ∧ l.length ≤ k + 1 ∧ PD.cv (gn W R) l = (w i j).1
theorem lay0 : Lay W R n 0 (w0 W R) := by
  refine ⟨fun i j hi hj => ?_, fun i j hi hj => ?_, fun l i j h hl => ?_, fun i j hi hj => ?_, fun i hi => ?_, fun i j hi hj => w0_len, fun i j hi hj => ?_⟩
  · unfold w0
    split
    · rename_i e; subst e; exact walk_one hi
    · exact ⟨rfl, rfl, fun x hx => by
        rcases List.mem_cons.mp hx with z | z
        · rw [z]; exact hi
        · rw [List.mem_singleton.mp z]; exact hj⟩
  · unfold w0
    split
    · rfl
    · show gn W R i j + 0 = gn W R i j
      omega
  · match l, h, hl with
    | [a], h, _ =>
      have h1 : a = i := by simpa using h.hd
      have h2 : a = j := by simpa using h.la
      subst h1; subst h2
      unfold w0; rw [if_pos rfl]; exact Int.le_refl _
    | [a, b], h, _ =>
      have h1 : a = i := by simpa using h.hd
      have h2 : b = j := by simpa using h.la
      subst h1; subst h2
      show gn W R a b + 0 ≤ _
      unfold w0
      split
      · rename_i e; subst e; rw [gn_self]; exact Int.le_refl _
      · show _ ≤ gn W R a b; omega
    | [], h, _ => exact absurd rfl h.ne
  · unfold w0
    split
    · simp
    · rename_i h; simp [h]
  · unfold w0; rw [if_pos rfl]; exact Int.le_refl _
  · by_cases e : i = j
    · subst e
      exact .inr ⟨[i], walk_one hi, by simp, by unfold w0; rw [if_pos rfl]; rfl⟩
    · exact .inl (by unfold w0; rw [if_neg e]; rfl)
theorem Lay.topNext {k : Nat} {w : Wy} (L : Lay W R n k w) : ∀ l i j, Walk n l i j → l.length ≤ k + 3 → PD.cv (gn W R) l ≤ (lg W R n w i j).1 := fun l i j h hl => by
  rcases h.back with ⟨rfl, rfl⟩ | ⟨l', m, rfl, h'⟩
  · have h1 := L.top [i] i i h (by simp)
    have h2 := best1_ge (W := W) (R := R) (row := w i) (j := i) n
    exact Int.le_trans h1 h2
  · rw [cv_snoc h'.la]
    have h1 := L.top l' i m h' (by simp at hl; omega)
    have h2 := best1_all (W := W) (R := R) (row := w i) (j := j) n m h'.lst
    exact Int.le_trans (by omega) h2
theorem Lay.next {k : Nat} {w : Wy} (L : Lay W R n k w) (hd : ∀ i, i < n → ¬ 0 < (lg W R n w i i).1) : Lay W R n (k + 1) (lg W R n w) := by
  have top := L.topNext
  refine ⟨fun i j hi hj => ?_, fun i j hi hj => ?_, top, fun i j hi hj => ?_, fun i hi => by have := hd i hi; omega, fun i j hi hj => ?_, fun i j hi hj => ?_⟩
  · rcases best1_cases (W := W) (R := R) (row := w i) (j := j) n with e | ⟨m, hm, e, _⟩
    · show Walk n (best1 W R (w i) j n).2 i j
      rw [e]; exact L.wk i j hi hj
    · show Walk n (best1 W R (w i) j n).2 i j
      rw [e]; exact (L.wk i m hi hm).snoc hj
  · rcases best1_cases (W := W) (R := R) (row := w i) (j := j) n with e | ⟨m, hm, e, _⟩
    · show PD.cv _ (best1 W R (w i) j n).2 = (best1 W R (w i) j n).1
      rw [e]; exact L.cv i j hi hj
    · show PD.cv _ (best1 W R (w i) j n).2 = (best1 W R (w i) j n).1
      rw [e]
      show PD.cv _ ((w i m).2 ++ [j]) = (w i m).1 + gn W R m j
      rw [cv_snoc (L.wk i m hi hm).la, L.cv i m hi hm]
  · rcases best1_cases (W := W) (R := R) (row := w i) (j := j) n with e | ⟨m, hm, e, lt⟩
    · show (best1 W R (w i) j n).2.Nodup
      rw [e]; exact L.nd i j hi hj
    · show (best1 W R (w i) j n).2.Nodup
      rw [e]
      show ((w i m).2 ++ [j]).Nodup
      have wk := L.wk i m hi hm
      have nj : j ∉ (w i m).2 := fun hj2 => by
        obtain ⟨a, b, ep⟩ := List.append_of_mem hj2
        have hcv := L.cv i m hi hm
        have hlen := L.len i m hi hm
        rw [ep] at wk hcv hlen
        rw [cv_split] at hcv
        have pre : Walk n (a ++ [j]) i j := by
          refine ⟨?_, by simp, fun x hx => ?_⟩
          · have := wk.hd
            cases a with
            | nil => simpa using this
            | cons y t => simpa using this
          · rcases List.mem_append.mp hx with z | z
            · exact wk.lt x (List.mem_append.mpr (.inl z))
            · rw [List.mem_singleton.mp z]; exact hj
        have h1 := L.top _ i j pre (by simp at hlen ⊢; omega)
        have la : (j :: b).getLast? = some m := by
          have := wk.la
          rw [List.getLast?_append] at this
          cases hb : (j :: b).getLast? with
          | none => simp at hb
          | some y => rw [hb] at this; simpa using this
        have suf : Walk n (j :: b ++ [j]) j j := by
          refine ⟨rfl, by rw [List.getLast?_append]; rfl, fun x hx => ?_⟩
          rcases List.mem_append.mp hx with z | z
          · exact wk.lt x (List.mem_append.mpr (.inr z))
          · rw [List.mem_singleton.mp z]; exact hj
        have h2 := top _ j j suf (by simp at hlen ⊢; omega)
        rw [cv_snoc la] at h2
        have h3 := hd j hj
        omega
      rw [List.nodup_append]
      refine ⟨L.nd i m hi hm, by simp, fun x hx y hy z => ?_⟩
      rw [List.mem_singleton.mp hy] at z
      subst z
      exact nj hx
  · rcases best1_cases (W := W) (R := R) (row := w i) (j := j) n with e | ⟨m, hm, e, lt⟩
    · show (best1 W R (w i) j n).2.length ≤ _
      rw [e]; have := L.len i j hi hj; omega
    · show (best1 W R (w i) j n).2.length ≤ _
      rw [e]
      show ((w i m).2 ++ [j]).length ≤ _
      have := L.len i m hi hm
      simp; omega
  · show (best1 W R (w i) j n).2.length = _ ∨ ∃ l, _ ∧ _ ∧ _ = (best1 W R (w i) j n).1
    rcases best1_cases (W := W) (R := R) (row := w i) (j := j) n with e | ⟨m, hm, e, lt⟩
    · rw [e]
      exact .inr ⟨_, L.wk i j hi hj, L.len i j hi hj, L.cv i j hi hj⟩
    · rw [e]
      rcases L.low i m hi hm with h | ⟨l, h1, h2, h3⟩
      · left
        show ((w i m).2 ++ [j]).length = _
        simp [h]
      · exfalso
        have := L.top (l ++ [j]) i j (h1.snoc hj) (by simp; omega)
        rw [cv_snoc h1.la] at this
        omega
/-! ### no better ring -/
structure Calm (W : List (List Int)) (R : List Nat) (n : Nat) (w : Wy) : Prop where
  wk : ∀ i j, i < n → j < n → Walk n (w i j).2 i j
  cv : ∀ i j, i < n → j < n → cv (gn W R) (w i j).2 = (w i j).1
  nd : ∀ i j, i < n → j < n → (w i j).2.Nodup
  dg : ∀ i, i < n → (w i i).1 = 0
  cl : ∀ i m j, i < n → m < n → j < n → (w i m).1 + gn W R m j ≤ (w i j).1
theorem Lay.dg0 {k : Nat} {w : Wy} (L : Lay W R n k w) {i : Nat} (hi : i < n) : (w i i).1 = 0 := by
  have h1 := L.dg i hi
  have h2 := L.top [i] i i (walk_one hi) (by simp)
  have h3 : PD.cv (gn W R) [i] = 0 := rfl
  omega
/-- a ring that is turned with gain -/
def rg (W : List (List Int)) (R Q : List Nat) : Int := ((List.range Q.length).map fun p => gn W R (Q.getD p 0) (Q.getD ((p + 1) % Q.length) 0)).sum
theorem cv_sum (g : Nat → Nat → Int) : ∀ l : List Nat, cv g l = ((List.range (l.length - 1)).map fun p => g (l.getD p 0) (l.getD (p + 1) 0)).sum
  | [] => rfl
  | [a] => rfl
  | a :: b :: l => by
    have ih := cv_sum g (b :: l)
    show g a b + cv g (b :: l) = _
    rw [ih]
    have e : (a :: b :: l).length - 1 = ((b :: l).length - 1) + 1 := by simp
    rw [e, List.range_succ_eq_map, List.map_cons, List.map_map, List.sum_cons]
    congr 1
theorem rg_cv {Q : List Nat} {i : Nat} (hi : Q.head? = some i) : rg W R Q = cv (gn W R) (Q ++ [i]) := by
  rw [cv_sum]
  unfold rg
  have e : (Q ++ [i]).length - 1 = Q.length := by simp
  rw [e]
  congr 1
  refine List.map_congr_left fun p hp => ?_
  have hp : p < Q.length := by simpa using hp
  have e1 : (Q ++ [i]).getD p 0 = Q.getD p 0 := by
    rw [List.getD_eq_getElem?_getD, List.getD_eq_getElem?_getD, List.getElem?_append_left hp]
  have e2 : (Q ++ [i]).getD (p + 1) 0 = Q.getD ((p + 1) % Q.length) 0 := by
    by_cases z : p + 1 = Q.length
    · rw [z, Nat.mod_self, List.getD_eq_getElem?_getD, List.getD_eq_getElem?_getD, List.getElem?_append_right (Nat.le_refl _), Nat.sub_self]
      rw [List.head?_eq_getElem?] at hi
      rw [hi]; rfl
    · rw [Nat.mod_eq_of_lt (by omega), List.getD_eq_getElem?_getD, List.getD_eq_getElem?_getD, List.getElem?_append_left (by omega)]
  rw [e1, e2]
theorem ringL_some {w : Wy} {r : List Nat} : ∀ {is : List Nat}, ringL w is = some r → ∃ i ∈ is, 0 < (w i i).1 ∧ r = (w i i).2.dropLast
  | [], h => by cases h
  | i :: is, h => by
    unfold ringL at h
    split at h
    · rename_i z
      cases h
      exact ⟨i, List.mem_cons_self, z, rfl⟩
    · obtain ⟨j, hj, z⟩ := ringL_some h
      exact ⟨j, List.mem_cons_of_mem _ hj, z⟩
theorem ringL_none {w : Wy} : ∀ {is : List Nat}, ringL w is = none → ∀ i ∈ is, ¬ 0 < (w i i).1
  | [], _, i, hi => absurd hi List.not_mem_nil
  | j :: is, h, i, hi => by
    unfold ringL at h
    split at h
    · cases h
    · rename_i z
      rcases List.mem_cons.mp hi with e | e
      · rw [e]; exact z
      · exact ringL_none h i e
theorem Lay.ring {k : Nat} {w : Wy} (L : Lay W R n k w) {r : List Nat} (h : ringIn n (lg W R n w) = some r) : Ring r n ∧ 0 < rg W R r := by
  obtain ⟨i, hi, hp, rfl⟩ := ringL_some h
  have hi : i < n := by simpa using hi
  have d0 := L.dg0 hi
  rcases best1_cases (W := W) (R := R) (row := w i) (j := i) n with e | ⟨m, hm, e, lt⟩
  · exfalso
    have : (lg W R n w i i).1 = (w i i).1 := by show (best1 W R (w i) i n).1 = _; rw [e]
    omega
  · have e2 : lg W R n w i i = ((w i m).1 + gn W R m i, (w i m).2 ++ [i]) := e
    rw [e2] at hp ⊢
    have hp : 0 < (w i m).1 + gn W R m i := hp
    show Ring ((w i m).2 ++ [i]).dropLast n ∧ 0 < rg W R ((w i m).2 ++ [i]).dropLast
    rw [List.dropLast_concat]
    have wk := L.wk i m hi hm
    refine ⟨⟨wk.lt, L.nd i m hi hm, ?_⟩, ?_⟩
    · have nm : m ≠ i := fun z => by
        subst z
        rw [gn_self] at hp
        omega
      have h1 := wk.hd
      have h2 := wk.la
      match hl : (w i m).2, h1, h2 with
      | [a], h1, h2 =>
        have e1 : a = i := by simpa using h1
        have e2 : a = m := by simpa using h2
        exact absurd (e2.symm.trans e1) nm
      | a :: b :: t, _, _ => simp
    · rw [rg_cv wk.hd, cv_snoc wk.la, L.cv i m hi hm]
      exact hp
/-! ### the same ways -/
theorem eqvAll_map {α : Type} {f h : α → PyData} : ∀ {xs : List α}, PyData.eqvAll (xs.map f) (xs.map h) = true → ∀ x ∈ xs, PyData.eqv (f x) (h x) = true
  | [], _, x, hx => absurd hx List.not_mem_nil
  | y :: ys, e, x, hx => by
    have e' : PyData.eqv (f y) (h y) = true ∧ PyData.eqvAll (ys.map f) (ys.map h) = true := by
      rw [List.map_cons, List.map_cons, PyData.eqvAll] at e
      simpa using e
    rcases List.mem_cons.mp hx with z | z
    · rw [z]; exact e'.1
    · exact eqvAll_map e'.2 x z
theorem sameW_val {f w : Wy} (h : sameW n f w = true) {i j : Nat} (hi : i < n) (hj : j < n) : (f i j).1 = (w i j).1 := by
  unfold sameW wyD at h
  rw [PyData.eqv] at h
  have h1 := eqvAll_map h i (by simpa using hi)
  unfold rowD at h1
  rw [PyData.eqv] at h1
  have h2 := eqvAll_map h1 j (by simpa using hj)
  rw [wpD, wpD, PyData.eqv, PyData.eqvAll, PyData.eqv] at h2
  simp at h2
  exact h2.1
theorem Lay.calm {k : Nat} {w : Wy} (L : Lay W R n k w) (cl : ∀ i m j, i < n → m < n → j < n → (w i m).1 + gn W R m j ≤ (w i j).1) : Calm W R n w :=
  ⟨L.wk, L.cv, L.nd, fun i hi => L.dg0 hi, cl⟩
theorem bwGo_spec : ∀ (k m : Nat) (w : Wy), m + k = n → Lay W R n m w → match bwGo W R n k w with
    | (some r, _) => Ring r n ∧ 0 < rg W R r
    | (none, w') => Calm W R n w'
  | 0, m, w, e, L => by
    show Calm W R n w
    refine L.calm fun i a j hi ha hj => ?_
    rcases L.low i a hi ha with h | ⟨l, h1, h2, h3⟩
    · have := nodup_le (L.wk i a hi ha).lt (L.nd i a hi ha)
      omega
    · have := L.top (l ++ [j]) i j (h1.snoc hj) (by simp; omega)
      rw [cv_snoc h1.la] at this
      omega
  | k + 1, m, w, e, L => by
    unfold bwGo
    cases hr : ringIn n (lg W R n w) with
    | some r => exact L.ring hr
    | none =>
      by_cases hs : sameW n (lg W R n w) w = true
      · show match (if sameW n (lg W R n w) w = true then ((none : Option (List Nat)), w) else bwGo W R n k (lg W R n w)) with
          | (some r, _) => Ring r n ∧ 0 < rg W R r
          | (none, w') => Calm W R n w'
        rw [if_pos hs]
        refine L.calm fun i a j hi ha hj => ?_
        have h1 := best1_all (W := W) (R := R) (row := w i) (j := j) n a ha
        have h2 : (best1 W R (w i) j n).1 = (w i j).1 := sameW_val hs hi hj
        omega
      · show match (if sameW n (lg W R n w) w = true then ((none : Option (List Nat)), w) else bwGo W R n k (lg W R n w)) with
          | (some r, _) => Ring r n ∧ 0 < rg W R r
          | (none, w') => Calm W R n w'
        rw [if_neg hs]
        exact bwGo_spec k (m + 1) _ (by omega) (L.next fun i hi => ringL_none hr i (by simpa using hi))
theorem bw_spec : match bw W R n with
    | (some r, _) => Ring r n ∧ 0 < rg W R r
    | (none, w') => Calm W R n w' := bwGo_spec n 0 _ (by omega) lay0
theorem bw_ring {r : List Nat} (h : (bw W R n).1 = some r) : Ring r n ∧ 0 < rg W R r := by
  have := bw_spec (W := W) (R := R) (n := n)
  cases e : bw W R n with
  | mk a b =>
    rw [e] at this h
    have h : a = some r := h
    subst h
    exact this
theorem bw_calm (h : (bw W R n).1 = none) : Calm W R n (bw W R n).2 := by
  have := bw_spec (W := W) (R := R) (n := n)
  cases e : bw W R n with
  | mk a b =>
    rw [e] at this h
    have h : a = none := h
    subst h
    exact this
/-! ### a ring is turned -/
theorem sum_set {f : Nat → Nat → Int} : ∀ {S : List Nat} {i v : Nat}, i < S.length →
    ((List.range S.length).map fun k => f k ((S.set i v).getD k 0)).sum = ((List.range S.length).map fun k => f k (S.getD k 0)).sum + f i v - f i (S.getD i 0)
  | [], i, v, h => absurd h (Nat.not_lt_zero _)
  | s :: S, 0, v, h => by
    rw [List.length_cons, List.range_succ_eq_map, List.map_cons, List.map_cons, List.map_map, List.map_map, List.sum_cons, List.sum_cons]
    show f 0 v + ((List.range S.length).map fun k => f (k + 1) (S.getD k 0)).sum = f 0 s + ((List.range S.length).map fun k => f (k + 1) (S.getD k 0)).sum + f 0 v - f 0 s
    omega
  | s :: S, i + 1, v, h => by
    have ih := sum_set (f := fun k => f (k + 1)) (S := S) (i := i) (v := v) (by simpa using h)
    rw [List.length_cons, List.range_succ_eq_map, List.map_cons, List.map_cons, List.map_map, List.map_map, List.sum_cons, List.sum_cons]
    show f 0 s + ((List.range S.length).map fun k => f (k + 1) ((S.set i v).getD k 0)).sum = f 0 s + ((List.range S.length).map fun k => f (k + 1) (S.getD k 0)).sum + f (i + 1) v - f (i + 1) (S.getD i 0)
    omega
theorem tot_set {S : List Nat} {i v : Nat} (h : i < S.length) : tot W (S.set i v) = tot W S + cell W i v - cell W i (S.getD i 0) := by
  unfold tot
  rw [List.length_set]
  exact sum_set (f := fun k r => cell W k r) h
theorem getD_set_ne {S : List Nat} {i x v : Nat} (h : i ≠ x) : (S.set i v).getD x 0 = S.getD x 0 := by
  rw [List.getD_eq_getElem?_getD, List.getD_eq_getElem?_getD, List.getElem?_set_ne h]
theorem getD_set_self {S : List Nat} {i v : Nat} (h : i < S.length) : (S.set i v).getD i 0 = v := by
  rw [List.getD_eq_getElem?_getD, List.getElem?_set_self h]; rfl
theorem turnGo_off {Q : List Nat} {x : Nat} : ∀ {k : Nat}, (∀ p, p < k → Q.getD p 0 ≠ x) → (turnGo R Q k).getD x 0 = R.getD x 0
  | 0, _ => rfl
  | k + 1, h => by
    unfold turnGo
    rw [getD_set_ne (h k (Nat.lt_succ_self k))]
    exact turnGo_off fun p hp => h p (by omega)
theorem getD_inj {Q : List Nat} {p p' : Nat} (nd : Q.Nodup) (h : p < Q.length) (h' : p' < Q.length) (e : Q.getD p 0 = Q.getD p' 0) : p = p' := by
  rw [List.getD_eq_getElem?_getD, List.getD_eq_getElem?_getD, List.getElem?_eq_getElem h, List.getElem?_eq_getElem h'] at e
  exact (List.getElem_inj nd).mp e
theorem turnGo_on {Q : List Nat} (g : Ring Q n) (hR : R.length = n) : ∀ {k : Nat}, k ≤ Q.length → ∀ p, p < k → (turnGo R Q k).getD (Q.getD p 0) 0 = R.getD (Q.getD ((p + 1) % Q.length) 0) 0
  | 0, _, p, hp => absurd hp (Nat.not_lt_zero _)
  | k + 1, hk, p, hp => by
    unfold turnGo
    by_cases e : p = k
    · subst e
      rw [getD_set_self (by rw [turnGo_len, hR]; exact g.lt _ (getD_mem (by omega)))]
    · rw [getD_set_ne (fun z => e (getD_inj g.nd (by omega) (by omega) z).symm)]
      exact turnGo_on g hR (by omega) p (by omega)
theorem turn_on {Q : List Nat} (g : Ring Q n) (hR : R.length = n) {p : Nat} (hp : p < Q.length) : (turn R Q).getD (Q.getD p 0) 0 = R.getD (Q.getD ((p + 1) % Q.length) 0) 0 := turnGo_on g hR (Nat.le_refl _) p hp
theorem mem_getD {Q : List Nat} {x : Nat} (h : x ∈ Q) : ∃ p, p < Q.length ∧ Q.getD p 0 = x := by
  obtain ⟨p, hp, e⟩ := List.mem_iff_getElem.mp h
  exact ⟨p, hp, by rw [List.getD_eq_getElem?_getD, List.getElem?_eq_getElem hp]; exact e⟩
theorem turn_off {Q : List Nat} {x : Nat} (h : x ∉ Q) : (turn R Q).getD x 0 = R.getD x 0 := turnGo_off fun p hp z => h (z ▸ getD_mem hp)
theorem tot_turnGo {Q : List Nat} (g : Ring Q n) (hR : R.length = n) : ∀ {k : Nat}, k ≤ Q.length → tot W (turnGo R Q k) = tot W R + ((List.range k).map fun p => gn W R (Q.getD p 0) (Q.getD ((p + 1) % Q.length) 0)).sum
  | 0, _ => by show tot W R = tot W R + 0; omega
  | k + 1, hk => by
    have ih := tot_turnGo g hR (k := k) (by omega)
    unfold turnGo
    rw [tot_set (by rw [turnGo_len, hR]; exact g.lt _ (getD_mem (by omega))), ih, List.range_succ, List.map_append, List.sum_append]
    rw [turnGo_off fun p hp z => absurd (getD_inj g.nd (by omega) (by omega) z) (by omega)]
    simp only [List.map_cons, List.map_nil, List.sum_cons, List.sum_nil]
    unfold gn
    omega
theorem tot_turn {Q : List Nat} (g : Ring Q n) (hR : R.length = n) : tot W (turn R Q) = tot W R + rg W R Q := tot_turnGo g hR (Nat.le_refl _)
theorem turn_len {Q : List Nat} : (turn R Q).length = R.length := turnGo_len R Q _
theorem turn_from {Q : List Nat} (g : Ring Q n) (hR : R.length = n) {x : Nat} (hx : x < n) : ∃ s, s < n ∧ (turn R Q).getD x 0 = R.getD s 0 ∧ ((∃ p, p < Q.length ∧ x = Q.getD p 0 ∧ s = Q.getD ((p + 1) % Q.length) 0) ∨ (x ∉ Q ∧ s = x)) := by
  by_cases hm : x ∈ Q
  · obtain ⟨p, hp, rfl⟩ := mem_getD hm
    have hq : (p + 1) % Q.length < Q.length := Nat.mod_lt _ (by omega)
    exact ⟨_, g.lt _ (getD_mem hq), turn_on g hR hp, .inl ⟨p, hp, rfl, rfl⟩⟩
  · exact ⟨x, hx, turn_off hm, .inr ⟨hm, rfl⟩⟩
theorem mod_next {p p' L : Nat} (h : p < L) (h' : p' < L) (e : (p + 1) % L = (p' + 1) % L) : p = p' := by
  by_cases z : p + 1 = L
  · rw [z, Nat.mod_self] at e
    by_cases z' : p' + 1 = L
    · omega
    · rw [Nat.mod_eq_of_lt (by omega)] at e; omega
  · rw [Nat.mod_eq_of_lt (by omega)] at e
    by_cases z' : p' + 1 = L
    · rw [z', Nat.mod_self] at e; omega
    · rw [Nat.mod_eq_of_lt (by omega)] at e; omega
theorem turn_rms {Q : List Nat} (g : Ring Q n) (q : Rms R n) : Rms (turn R Q) n := by
  have len : (turn R Q).length = n := turn_len.trans q.len
  have at_ : ∀ {x : Nat} (h : x < (turn R Q).length), (turn R Q)[x] = (turn R Q).getD x 0 := fun {x} h => by
    rw [List.getD_eq_getElem?_getD, List.getElem?_eq_getElem h]; rfl
  refine ⟨len, fun r hr => ?_, ?_⟩
  · obtain ⟨x, hx, rfl⟩ := mem_getD hr
    obtain ⟨s, hs, e, _⟩ := turn_from g q.len (by rw [len] at hx; exact hx)
    rw [e]
    exact q.at_lt hs
  · rw [List.nodup_iff_pairwise_ne, List.pairwise_iff_getElem]
    intro x y hx hy lt e
    rw [at_, at_] at e
    rw [len] at hx hy
    obtain ⟨s, hs, e1, c1⟩ := turn_from g q.len hx
    obtain ⟨s', hs', e2, c2⟩ := turn_from g q.len hy
    rw [e1, e2] at e
    have es := getD_inj q.nd (by rw [q.len]; exact hs) (by rw [q.len]; exact hs') e
    subst es
    rcases c1 with ⟨p, hp, rfl, z⟩ | ⟨hm, rfl⟩
    · rcases c2 with ⟨p', hp', rfl, z'⟩ | ⟨hm', rfl⟩
      · have hq : (p + 1) % Q.length < Q.length := Nat.mod_lt _ (by omega)
        have hq' : (p' + 1) % Q.length < Q.length := Nat.mod_lt _ (by omega)
        have := mod_next hp hp' (getD_inj g.nd hq hq' (z.symm.trans z'))
        subst this
        omega
      · refine hm' ?_
        rw [z]
        exact getD_mem (Nat.mod_lt _ (by omega))
    · rcases c2 with ⟨p', hp', rfl, z'⟩ | ⟨hm', rfl⟩
      · refine hm ?_
        rw [z']
        exact getD_mem (Nat.mod_lt _ (by omega))
      · omega
/-! ### settled -/
def SetN (W : List (List Int)) (n : Nat) : Nat → List Nat → List Nat → Prop
  | 0, R, R' => (bw W R n).1 = none ∧ R = R'
  | k + 1, R, R' => ∃ r, (bw W R n).1 = some r ∧ SetN W n k (turn R r) R'
theorem sum_le {f : Nat → Int} {B : Int} : ∀ {l : List Nat}, (∀ x ∈ l, f x ≤ B) → (l.map f).sum ≤ (l.length : Int) * B
  | [], _ => by simp
  | a :: l, h => by
    have h1 := h a List.mem_cons_self
    have ih := sum_le (f := f) (l := l) fun x hx => h x (List.mem_cons_of_mem _ hx)
    rw [List.map_cons, List.sum_cons, List.length_cons]
    have : ((l.length + 1 : Nat) : Int) * B = (l.length : Int) * B + B := by push_cast; rw [Int.add_mul]; omega
    omega
theorem cell_le {i k : Nat} (t : Tab W n) (hi : i < n) (hk : k < n) : 0 ≤ cell W i k ∧ cell W i k ≤ 1000000 :=
  t.coin _ (getD_mem (by rw [t.len]; exact hi)) _ (getD_mem (by rw [t.row_len hi]; exact hk))
theorem tot_le (t : Tab W n) (q : Rms R n) : tot W R ≤ 8000000 := by
  unfold tot
  have := sum_le (f := fun i => cell W i (R.getD i 0)) (B := 1000000) (l := List.range R.length) fun x hx => by
    have hx : x < n := by rw [q.len] at hx; simpa using hx
    exact (cell_le t hx (q.at_lt hx)).2
  rw [List.length_range, q.len] at this
  rw [q.len]
  have := t.hi
  omega
theorem settles (t : Tab W n) : ∀ (m : Nat) (R : List Nat), Rms R n → 8000000 - tot W R ≤ (m : Int) → ∃ k R', SetN W n k R R'
  | m, R, q, h => by
    cases e : (bw W R n).1 with
    | none => exact ⟨0, R, e, rfl⟩
    | some r =>
      obtain ⟨g, hp⟩ := bw_ring e
      have q' := turn_rms g q
      have ht := tot_turn (W := W) g q.len
      have hl := tot_le t q'
      match m, h with
      | 0, h => omega
      | m + 1, h =>
        obtain ⟨k, R', hs⟩ := settles t m (turn R r) q' (by push_cast at h; omega)
        exact ⟨k + 1, R', r, e, hs⟩
theorem settles_ex (t : Tab W n) (q : Rms R n) : ∃ k R', SetN W n k R R' := settles t (8000000 - tot W R).toNat R q (by omega)
theorem setN_rms : ∀ {k : Nat} {R R' : List Nat}, SetN W n k R R' → Rms R n → Rms R' n
  | 0, R, R', h, q => h.2 ▸ q
  | k + 1, R, R', ⟨r, e, h⟩, q => setN_rms h (turn_rms (bw_ring e).1 q)
theorem setN_end : ∀ {k : Nat} {R R' : List Nat}, SetN W n k R R' → (bw W R' n).1 = none
  | 0, R, R', h => h.2 ▸ h.1
  | k + 1, R, R', ⟨r, e, h⟩ => setN_end h
theorem setN_tot : ∀ {k : Nat} {R R' : List Nat}, SetN W n k R R' → Rms R n → tot W R ≤ tot W R'
  | 0, R, R', h, q => by rw [h.2]; exact Int.le_refl _
  | k + 1, R, R', ⟨r, e, h⟩, q => by
    obtain ⟨g, hp⟩ := bw_ring e
    have h1 := setN_tot h (turn_rms g q)
    have h2 := tot_turn (W := W) g q.len
    omega
theorem setN_fun : ∀ {k k' : Nat} {R R1 R2 : List Nat}, SetN W n k R R1 → SetN W n k' R R2 → R1 = R2
  | 0, 0, R, R1, R2, h, h' => h.2.symm.trans h'.2
  | 0, k' + 1, R, R1, R2, h, ⟨r, e, _⟩ => by rw [h.1] at e; cases e
  | k + 1, 0, R, R1, R2, ⟨r, e, _⟩, h' => by rw [h'.1] at e; cases e
  | k + 1, k' + 1, R, R1, R2, ⟨r, e, h⟩, ⟨r', e', h'⟩ => by
    rw [e] at e'
    cases e'
    exact setN_fun h h'
end
end PD

set_option Elab.async false
set_option linter.all false
set_option maxRecDepth 100000
set_option maxHeartbeats 1000000
set_option exponentiation.threshold 2000
/-! Numbers and rows as texts, plainly. -/
namespace PD
open PySem L2 TL
/-! ### signs of numbers -/
theorem tl_of (s : String) : tl (Str.ofString s) = s.toList.map Char.toNat := by
  rw [Str.ofString_eq_toList]
  first | done | rfl | simp [tl]
theorem tl_neg (m : Nat) : tl (sI (Int.negSucc m)) = 45 :: numL (m + 1) := by
  have h := tl_num (m + 1)
  rw [tl_of] at h ⊢
  have e : toString (Int.negSucc m) = "-" ++ toString ((m + 1 : Nat) : Int) := rfl
  rw [e, String.toList_append, List.map_append, h]
  rfl
theorem tl_sI_nat (n : Nat) : tl (sI (n : Int)) = numL n := tl_num n
theorem tl_sI_neg {n : Nat} (h : 0 < n) : tl (sI (-(n : Int))) = 45 :: numL n := by
  obtain ⟨m, rfl⟩ : ∃ m, n = m + 1 := ⟨n - 1, by omega⟩
  exact tl_neg m
abbrev dv (l : List Nat) : Nat := NumText.digitsVal l
theorem dv_snoc (l : List Nat) (c : Nat) : dv (l ++ [c]) = dv l * 10 + (c - 48) := by
  show List.foldl _ 0 (l ++ [c]) = _
  rw [List.foldl_append]; rfl
theorem dv_num (n : Nat) : dv (numL n) = n := numL_val n
theorem snoc_cases (l : List Nat) (h : l ≠ []) : ∃ a c, l = a ++ [c] := ⟨l.dropLast, l.getLast h, (List.dropLast_concat_getLast h).symm⟩
theorem dv_lt : ∀ (k : Nat) (l : List Nat), l.length = k → NumText.AllDigits l → dv l < 10 ^ k
  | 0, l, h, _ => by
    have : l = [] := List.length_eq_zero_iff.mp h
    subst this
    exact Nat.one_pos
  | k + 1, l, h, hd => by
    obtain ⟨a, c, rfl⟩ := snoc_cases l (fun z => by rw [z] at h; cases h)
    have la : a.length = k := by simpa using h
    have ih := dv_lt k a la fun x hx => hd x (List.mem_append.mpr (.inl hx))
    have hc := hd c (List.mem_append.mpr (.inr (List.mem_singleton.mpr rfl)))
    rw [dv_snoc, Nat.pow_succ]
    omega
theorem num_head : ∀ (n : Nat), 0 < n → (numL n).head? ≠ some 48 := fun n => by
  induction n using Nat.strongRecOn with
  | _ n ih =>
    intro h
    by_cases hn : n < 10
    · rw [numL_lt hn]
      intro z
      have : 48 + n = 48 := by simpa using z
      omega
    · rw [numL_step (by omega), List.head?_append]
      have := ih (n / 10) (by omega) (by omega)
      cases e : (numL (n / 10)).head? with
      | none => exact absurd (List.head?_eq_none_iff.mp e) (numL_ne _)
      | some x =>
        rw [e] at this
        exact this
/-- figures without noughts ahead are the figures of their number -/
theorem num_canon : ∀ (k : Nat) (l : List Nat), l.length = k → NumText.AllDigits l → l ≠ [] → (l.head? = some 48 → l.length ≤ 1) → numL (dv l) = l
  | 0, l, h, _, hn, _ => absurd (List.length_eq_zero_iff.mp h) hn
  | k + 1, l, h, hd, hn, h0 => by
    obtain ⟨a, c, rfl⟩ := snoc_cases l hn
    have la : a.length = k := by simpa using h
    have hc := hd c (List.mem_append.mpr (.inr (List.mem_singleton.mpr rfl)))
    have had : NumText.AllDigits a := fun x hx => hd x (List.mem_append.mpr (.inl hx))
    cases ha : a with
    | nil =>
      rw [dv_snoc]
      show numL (0 * 10 + (c - 48)) = [c]
      rw [numL_lt (by omega)]
      have : 48 + (0 * 10 + (c - 48)) = c := by omega
      rw [this]
    | cons b t =>
      have hne : a ≠ [] := by rw [ha]; exact List.cons_ne_nil _ _
      rw [← ha]
      have hh : a.head? ≠ some 48 := fun z => by
        have := h0 (by rw [List.head?_append, z]; rfl)
        rw [List.length_append, la] at this
        have : k = 0 := by simp at this; omega
        rw [this] at la
        exact hne (List.length_eq_zero_iff.mp la)
      have ih := num_canon k a la had hne fun z => absurd z hh
      have pos : 0 < dv a := by
        by_cases z : dv a = 0
        · rw [z] at ih
          exact absurd (by rw [← ih]; rfl) hh
        · omega
      rw [dv_snoc, numL_step (by omega)]
      have e1 : (dv a * 10 + (c - 48)) / 10 = dv a := by omega
      have e2 : 48 + (dv a * 10 + (c - 48)) % 10 = c := by omega
      rw [e1, e2, ih]
/-! ### the two readings of a word -/
def digs (l : List Nat) : Bool := l.all fun c => decide (48 ≤ c) && decide (c ≤ 57)
theorem digs_iff {l : List Nat} : digs l = true ↔ NumText.AllDigits l := by
  unfold digs
  rw [List.all_eq_true]
  constructor
  · intro h x hx
    have := h x hx
    simpa using this
  · intro h x hx
    have := h x hx
    simpa using this
def figs (w : Str) (b : Bool) : List Nat := if b = true ∧ (tl w).take 1 = [45] then (tl w).drop 1 else tl w
def okLen (f : List Nat) : Bool := decide (1 ≤ f.length) && decide (f.length ≤ 30) && digs f
/-- the number of a word, its figures f -/
def valOf (w : Str) (f : List Nat) : Int := if f ≠ tl w then -((dv f : Nat) : Int) else ((dv f : Nat) : Int)
def numOf (w : Str) (b : Bool) : Option Int :=
  if okLen (figs w b) = true then (if (figs w b).head? = some 48 ∧ (1 < (figs w b).length ∨ figs w b ≠ tl w) then none else some (valOf w (figs w b))) else none
def lawNum (w : Str) : Option Int := if okLen (figs w true) = true then some (valOf w (figs w true)) else none
theorem figs_cases (w : Str) (b : Bool) : figs w b = tl w ∨ (b = true ∧ tl w = 45 :: figs w b) := by
  unfold figs
  split
  · rename_i h
    right
    refine ⟨h.1, ?_⟩
    cases hw : tl w with
    | nil => rw [hw] at h; simp at h
    | cons x t =>
      rw [hw] at h
      have : x = 45 := by simpa using h.2
      rw [this]; rfl
  · exact .inl rfl
theorem okLen_of {f : List Nat} (h : okLen f = true) : f ≠ [] ∧ f.length ≤ 30 ∧ NumText.AllDigits f := by
  unfold okLen at h
  simp only [Bool.and_eq_true, decide_eq_true_eq] at h
  refine ⟨fun z => ?_, h.1.2, digs_iff.mp h.2⟩
  rw [z] at h
  simp at h
theorem val_small {w : Str} {b : Bool} (h : okLen (figs w b) = true) : (valOf w (figs w b)).natAbs < 10 ^ 30 := by
  obtain ⟨h1, h2, h3⟩ := okLen_of h
  have := dv_lt _ _ rfl h3
  have := Nat.lt_of_lt_of_le this (Nat.pow_le_pow_right (show 0 < 10 by decide) h2)
  unfold valOf
  split <;> omega
theorem numOf_sI {w : Str} {b : Bool} {v : Int} (h : numOf w b = some v) : w = sI v ∧ (b = false → 0 ≤ v) ∧ v.natAbs < 10 ^ 30 := by
  unfold numOf at h
  split at h
  · rename_i ok
    have sm := val_small ok
    obtain ⟨h1, h2, h3⟩ := okLen_of ok
    split at h
    · cases h
    · rename_i nz
      cases h
      rcases figs_cases w b with e | ⟨hb, e⟩
      · rw [e] at nz h1 h3 sm ⊢
        have ev : valOf w (tl w) = ((dv (tl w) : Nat) : Int) := by unfold valOf; rw [if_neg (fun z => z rfl)]
        rw [ev] at sm ⊢
        refine ⟨ext_tl ?_, fun _ => Int.natCast_nonneg _, sm⟩
        rw [tl_sI_nat]
        exact (num_canon _ _ rfl h3 h1 fun z => by
          by_cases y : 1 < (tl w).length
          · exact absurd ⟨z, .inl y⟩ nz
          · omega).symm
      · have ne : figs w b ≠ tl w := fun z => by
          have := congrArg List.length (z.trans e)
          simp at this
        have hh : (figs w b).head? ≠ some 48 := fun z => nz ⟨z, .inr ne⟩
        have cn := num_canon _ _ rfl h3 h1 fun z => absurd z hh
        have pos : 0 < dv (figs w b) := by
          by_cases z : dv (figs w b) = 0
          · rw [z] at cn
            exact absurd (by rw [← cn]; rfl) hh
          · omega
        have ev : valOf w (figs w b) = -((dv (figs w b) : Nat) : Int) := by unfold valOf; rw [if_pos ne]
        rw [ev] at sm ⊢
        refine ⟨ext_tl ?_, (fun z => by rw [z] at hb; cases hb), sm⟩
        rw [tl_sI_neg pos, cn]
        exact e
  · cases h
theorem num_len30 {n : Nat} (h : n < 10 ^ 30) : okLen (numL n) = true := by
  unfold okLen
  have h1 : 1 ≤ (numL n).length := by
    have := numL_ne n
    cases e : numL n with
    | nil => exact absurd e this
    | cons a t => simp
  have h2 := numL_len (k := 30) (by decide) h
  rw [decide_eq_true h1, decide_eq_true h2, digs_iff.mpr (numL_digits n)]
  rfl
theorem figs_nat (n : Nat) (b : Bool) : figs (sI (n : Int)) b = numL n := by
  unfold figs
  rw [tl_sI_nat, if_neg]
  rintro ⟨_, z⟩
  have hm : 45 ∈ numL n := List.mem_of_mem_take (by rw [z]; exact List.mem_singleton.mpr rfl)
  have := numL_digits n 45 hm
  omega
theorem figs_neg {n : Nat} (h : 0 < n) : figs (sI (-(n : Int))) true = numL n := by
  unfold figs
  rw [tl_sI_neg h, if_pos ⟨rfl, rfl⟩]; rfl
theorem int_cases (v : Int) : (∃ n : Nat, v = (n : Int)) ∨ ∃ n : Nat, 0 < n ∧ v = -(n : Int) := by
  by_cases h : 0 ≤ v
  · exact .inl ⟨v.toNat, by omega⟩
  · exact .inr ⟨v.natAbs, by omega, by omega⟩
theorem lawNum_sI {v : Int} (h : v.natAbs < 10 ^ 30) : lawNum (sI v) = some v := by
  unfold lawNum
  rcases int_cases v with ⟨n, rfl⟩ | ⟨n, hn, rfl⟩
  · rw [figs_nat, if_pos (num_len30 (by simpa using h))]
    unfold valOf
    rw [tl_sI_nat, if_neg (fun z => z rfl), dv_num]
  · rw [figs_neg hn, if_pos (num_len30 (by omega))]
    unfold valOf
    rw [tl_sI_neg hn, if_pos (fun z => by have := congrArg List.length z; simp at this), dv_num]
theorem sI_numOf {v : Int} {b : Bool} (h : v.natAbs < 10 ^ 30) (hb : b = false → 0 ≤ v) : numOf (sI v) b = some v := by
  unfold numOf
  rcases int_cases v with ⟨n, rfl⟩ | ⟨n, hn, rfl⟩
  · rw [figs_nat, if_pos (num_len30 (by simpa using h)), if_neg]
    · unfold valOf
      rw [tl_sI_nat, if_neg (fun z => z rfl), dv_num]
    · rintro ⟨z, y⟩
      by_cases n0 : 0 < n
      · exact num_head n n0 z
      · have : n = 0 := by omega
        subst this
        rw [tl_sI_nat] at y
        have e : (numL 0).length = 1 := by rw [numL_lt (by decide)]; rfl
        rw [e] at y
        simp at y
  · have : b = true := by
      cases b with
      | true => rfl
      | false => have := hb rfl; omega
    subst this
    rw [figs_neg hn, if_pos (num_len30 (by omega)), if_neg]
    · unfold valOf
      rw [tl_sI_neg hn, if_pos (fun z => by have := congrArg List.length z; simp at this), dv_num]
    · rintro ⟨z, _⟩
      exact num_head n hn z
theorem lawNum_small {w : Str} {v : Int} (h : lawNum w = some v) : v.natAbs < 10 ^ 30 := by
  unfold lawNum at h
  split at h
  · rename_i ok
    cases h
    exact val_small ok
  · cases h
/-! ### splitting -/
theorem parts_ex (s : Nat) : ∀ x : List Nat, ∃ ps : List (List Nat), ps ≠ [] ∧ (∀ p ∈ ps, s ∉ p) ∧ x = joinL [s] ps
  | [] => ⟨[[]], by simp, fun p hp => by rw [List.mem_singleton.mp hp]; exact List.not_mem_nil, rfl⟩
  | a :: x => by
    obtain ⟨ps, h1, h2, h3⟩ := parts_ex s x
    cases ps with
    | nil => exact absurd rfl h1
    | cons p ps =>
      by_cases e : a = s
      · subst e
        refine ⟨[] :: p :: ps, by simp, fun q hq => ?_, ?_⟩
        · rcases List.mem_cons.mp hq with z | z
          · rw [z]; exact List.not_mem_nil
          · exact h2 q z
        · show a :: x = [] ++ ([a] ++ joinL [a] (p :: ps))
          rw [h3]; rfl
      · refine ⟨(a :: p) :: ps, by simp, fun q hq => ?_, ?_⟩
        · rcases List.mem_cons.mp hq with z | z
          · rw [z]
            intro hm
            rcases List.mem_cons.mp hm with y | y
            · exact e y.symm
            · exact h2 p List.mem_cons_self y
          · exact h2 q (List.mem_cons_of_mem _ z)
        · rw [h3]
          cases ps with
          | nil => rfl
          | cons q r => rfl
/-- a text is the join of its parts -/
theorem split_parts {y : Str} {s : Nat} (ey : tl y = [s]) (hk : y.cps.all (· < 256) = true) (x : Str) : Txt.split x y ≠ [] ∧ (∀ p ∈ Txt.split x y, s ∉ tl p) ∧ x = Txt.join y (Txt.split x y) := by
  obtain ⟨ps, h1, h2, h3⟩ := parts_ex s (tl x)
  have e : (Txt.split x y).map tl = ps := by
    rw [split_spl _ y (by rw [ey]; simp) (kind_ok hk), ey, h3]
    exact spl_join h1 h2
  refine ⟨fun z => ?_, fun p hp => ?_, ext_tl ?_⟩
  · rw [z] at e
    exact h1 e.symm
  · exact h2 (tl p) (by rw [← e]; exact List.mem_map.mpr ⟨p, hp, rfl⟩)
  · rw [join_eq, tl_join, ey, e]
    exact h3
/-! ### rows of a deal -/
def rowT (k r : Nat) (p : Int) (n : Nat) : Str := sI (k : Int) ++ ": room " ++ sI (r : Int) ++ " pays " ++ sI p ++ "/" ++ sI (n : Int)
theorem free_num {s : Nat} (hs : s < 45 ∨ (45 < s ∧ s < 48) ∨ 57 < s) (v : Int) : s ∉ tl (sI v) := by
  rcases int_cases v with ⟨n, rfl⟩ | ⟨n, hn, rfl⟩
  · rw [tl_sI_nat]; exact numL_free (by omega)
  · rw [tl_sI_neg hn]
    intro h
    rcases List.mem_cons.mp h with z | z
    · omega
    · exact numL_free (s := s) (by omega) z
theorem tl_blank : tl (Str.ofString " ") = [32] := by decide +kernel
theorem tl_slash : tl (Str.ofString "/") = [47] := by decide +kernel
theorem tl_line : tl (Str.ofString "\n") = [10] := by decide +kernel
theorem k_blank : (Str.ofString " ").cps.all (· < 256) = true := by decide +kernel
theorem k_slash : (Str.ofString "/").cps.all (· < 256) = true := by decide +kernel
theorem k_line : (Str.ofString "\n").cps.all (· < 256) = true := by decide +kernel
theorem tl_colon : tl (Str.ofString ":") = [58] := by decide +kernel
theorem tl_room : tl (Str.ofString "room") = [114, 111, 111, 109] := by decide +kernel
theorem tl_pays : tl (Str.ofString "pays") = [112, 97, 121, 115] := by decide +kernel
theorem tl_croom : tl (Str.ofString ": room ") = [58, 32, 114, 111, 111, 109, 32] := by decide +kernel
theorem tl_bpays : tl (Str.ofString " pays ") = [32, 112, 97, 121, 115, 32] := by decide +kernel
/-- the words of a row -/
def wordsT (k r : Nat) (p : Int) (n : Nat) : List Str := [sI (k : Int) ++ ":", "room", sI (r : Int), "pays", sI p ++ "/" ++ sI (n : Int)]
theorem rowT_join (k r : Nat) (p : Int) (n : Nat) : rowT k r p n = Txt.join " " (wordsT k r p n) := by
  refine ext_tl ?_
  rw [join_eq, tl_join]
  unfold rowT wordsT
  simp only [tl_append, List.map_cons, List.map_nil, joinL, tl_blank, tl_slash, tl_colon, tl_room, tl_pays, tl_croom, tl_bpays, List.append_assoc]
  simp
theorem row_split (k r : Nat) (p : Int) (n : Nat) : Txt.split (rowT k r p n) " " = wordsT k r p n := by
  rw [rowT_join]
  refine split_join tl_blank k_blank (by simp [wordsT]) fun w hw => ?_
  have f : ∀ v : Int, 32 ∉ tl (sI v) := fun v => free_num (.inl (by decide)) v
  simp only [wordsT, List.mem_cons, List.not_mem_nil, or_false] at hw
  rcases hw with rfl | rfl | rfl | rfl | rfl
  · rw [tl_append, tl_colon]
    intro h
    rcases List.mem_append.mp h with z | z
    · exact f _ z
    · simp at z
  · rw [tl_room]; decide
  · exact f _
  · rw [tl_pays]; decide
  · rw [tl_append, tl_append, tl_slash]
    intro h
    rcases List.mem_append.mp h with z | z
    · rcases List.mem_append.mp z with y | y
      · exact f _ y
      · simp at y
    · exact f _ z
theorem ends_split (p : Int) (n : Nat) : Txt.split (sI p ++ "/" ++ sI (n : Int)) "/" = [sI p, sI (n : Int)] := by
  have e : sI p ++ "/" ++ sI (n : Int) = Txt.join "/" [sI p, sI (n : Int)] := by
    refine ext_tl ?_
    rw [join_eq, tl_join]
    simp only [tl_append, List.map_cons, List.map_nil, joinL, List.append_assoc]
  rw [e]
  refine split_join tl_slash k_slash (by simp) fun w hw => ?_
  simp only [List.mem_cons, List.not_mem_nil, or_false] at hw
  rcases hw with rfl | rfl
  · exact free_num (.inr (.inl (by decide))) _
  · exact free_num (.inr (.inl (by decide))) _
/-- the room and the part of a row, as the program reads them -/
def rowOf (row : Str) (k n : Nat) : Option (Int × Int) :=
  let ws := Txt.split row " "
  if ws.length ≠ 5 ∨ ws.getD 0 "" ≠ sI (k : Int) ++ ":" ∨ ws.getD 1 "" ≠ "room" ∨ ws.getD 3 "" ≠ "pays" then none else
  match numOf (ws.getD 2 "") false with
  | none => none
  | some r =>
    let es := Txt.split (ws.getD 4 "") "/"
    if es.length ≠ 2 then none else
    match numOf (es.getD 1 "") false with
    | none => none
    | some m => if m ≠ (n : Int) ∨ (n : Int) ≤ r then none else
      match numOf (es.getD 0 "") true with
      | none => none
      | some p => some (r, p)
theorem five {α : Type} {l : List α} {d : α} (h : l.length = 5) : l = [l.getD 0 d, l.getD 1 d, l.getD 2 d, l.getD 3 d, l.getD 4 d] := by
  match l, h with
  | [a, b, c, e, f], _ => rfl
theorem twoL {α : Type} {l : List α} {d : α} (h : l.length = 2) : l = [l.getD 0 d, l.getD 1 d] := by
  match l, h with
  | [a, b], _ => rfl
/-- just the rows of the document are taken -/
theorem rowOf_iff {row : Str} {k n : Nat} (n8 : n ≤ 8) {r p : Int} : rowOf row k n = some (r, p) ↔ ∃ j : Nat, r = (j : Int) ∧ j < n ∧ p.natAbs < 10 ^ 30 ∧ row = rowT k j p n := by
  constructor
  · intro h
    unfold rowOf at h
    simp only at h
    split at h
    · cases h
    · rename_i hw
      have hl : (Txt.split row " ").length = 5 := Classical.byContradiction fun z => hw (.inl z)
      have w0 : (Txt.split row " ").getD 0 "" = sI (k : Int) ++ ":" := Classical.byContradiction fun z => hw (.inr (.inl z))
      have w1 : (Txt.split row " ").getD 1 "" = "room" := Classical.byContradiction fun z => hw (.inr (.inr (.inl z)))
      have w3 : (Txt.split row " ").getD 3 "" = "pays" := Classical.byContradiction fun z => hw (.inr (.inr (.inr z)))
      cases e2 : numOf ((Txt.split row " ").getD 2 "") false with
      | none => rw [e2] at h; cases h
      | some r' =>
        rw [e2] at h
        simp only at h
        split at h
        · cases h
        · rename_i he
          have he : (Txt.split ((Txt.split row " ").getD 4 "") "/").length = 2 := Classical.byContradiction he
          cases e3 : numOf ((Txt.split ((Txt.split row " ").getD 4 "") "/").getD 1 "") false with
          | none => rw [e3] at h; cases h
          | some m =>
            rw [e3] at h
            simp only at h
            split at h
            · cases h
            · rename_i hm
              have hm1 : m = (n : Int) := Classical.byContradiction fun z => hm (.inl z)
              have hm2 : ¬ (n : Int) ≤ r' := fun z => hm (.inr z)
              cases e4 : numOf ((Txt.split ((Txt.split row " ").getD 4 "") "/").getD 0 "") true with
              | none => rw [e4] at h; cases h
              | some p' =>
                rw [e4] at h
                simp only [Option.some.injEq, Prod.mk.injEq] at h
                obtain ⟨rfl, rfl⟩ := h
                obtain ⟨a1, a2, a3⟩ := numOf_sI e2
                obtain ⟨b1, b2, b3⟩ := numOf_sI e3
                obtain ⟨c1, c2, c3⟩ := numOf_sI e4
                subst hm1
                have r0 := a2 rfl
                refine ⟨r'.toNat, by omega, by omega, c3, ?_⟩
                have er : ((r'.toNat : Nat) : Int) = r' := by omega
                rw [rowT_join]
                have ends := (split_parts tl_slash k_slash ((Txt.split row " ").getD 4 "")).2.2
                rw [twoL (d := Str.ofString "") he, b1, c1] at ends
                have w4 : (Txt.split row " ").getD 4 "" = sI p' ++ "/" ++ sI (n : Int) := by
                  rw [ends]
                  refine ext_tl ?_
                  rw [join_eq, tl_join]
                  simp only [tl_append, List.map_cons, List.map_nil, joinL, List.append_assoc]
                have all := (split_parts tl_blank k_blank row).2.2
                rw [five (d := Str.ofString "") hl, w0, w1, a1, w3, w4] at all
                rw [all]
                unfold wordsT
                rw [er]
  · rintro ⟨j, rfl, hj, hp, rfl⟩
    unfold rowOf
    rw [row_split]
    have e2 : numOf (sI ((j : Nat) : Int)) false = some (j : Int) := sI_numOf (by rw [Int.natAbs_natCast]; exact Nat.lt_of_lt_of_le (Nat.lt_of_lt_of_le hj n8) (by decide)) fun _ => Int.natCast_nonneg _
    have e3 : numOf (sI ((n : Nat) : Int)) false = some (n : Int) := sI_numOf (by rw [Int.natAbs_natCast]; exact Nat.lt_of_le_of_lt n8 (by decide)) fun _ => Int.natCast_nonneg _
    have e4 : numOf (sI p) true = some p := sI_numOf hp fun z => nomatch z
    have g0 : (wordsT k j p n).getD 0 "" = sI (k : Int) ++ ":" := rfl
    have g1 : (wordsT k j p n).getD 1 "" = "room" := rfl
    have g2 : (wordsT k j p n).getD 2 "" = sI (j : Int) := rfl
    have g3 : (wordsT k j p n).getD 3 "" = "pays" := rfl
    have g4 : (wordsT k j p n).getD 4 "" = sI p ++ "/" ++ sI (n : Int) := rfl
    simp only
    rw [if_neg (fun z => z.elim (fun z => z rfl) fun z => z.elim (fun z => z g0) fun z => z.elim (fun z => z g1) fun z => z g3), g2, e2, g4, ends_split]
    simp only
    rw [if_neg (fun z => z rfl)]
    have h1 : ([sI p, sI (n : Int)] : List Str).getD 1 "" = sI (n : Int) := rfl
    have h0 : ([sI p, sI (n : Int)] : List Str).getD 0 "" = sI p := rfl
    rw [h1, h0, e3]
    simp only
    rw [if_neg (fun z => z.elim (fun z => z rfl) fun z => by omega), e4]
end PD

set_option Elab.async false
set_option linter.all false
set_option maxRecDepth 100000
set_option maxHeartbeats 1000000
set_option exponentiation.threshold 2000
namespace PD
open PySem L2 TL
section
variable {K : PySem.W.Frag} {c : CA} {E : XK} {Γ : Env} {ds : List PyData} {r : Res} {ta tb te : TE}
/-! ### figures -/
theorem tl_digits : tl (Str.ofString "0123456789") = [48, 49, 50, 51, 52, 53, 54, 55, 56, 57] := by decide +kernel
theorem mem_digits (c : Nat) : decide (c ∈ tl (Str.ofString "0123456789")) = (decide (48 ≤ c) && decide (c ≤ 57)) := by
  rw [tl_digits, Bool.eq_iff_iff]
  simp
  omega
theorem tl_minus : tl (Str.ofString "-") = [45] := by decide +kernel
theorem tl_nought : tl (Str.ofString "0") = [48] := by decide +kernel
theorem str_eq {a b : Str} : a = b ↔ tl a = tl b := ⟨fun h => by rw [h], ext_tl⟩
theorem minus_iff (w : Str) : decide (cutS w none (some ((1 : Nat) : Int)) = Str.ofString "-") = decide ((tl w).take 1 = [45]) := by
  rw [decide_eq_decide, str_eq, tl_cut_take, tl_minus]
/-- the number of a text of figures -/
theorem int_figs {F : Str} (h : okLen (tl F) = true) : PySem.intText? F = some ((dv (tl F) : Nat) : Int) ∧ F.length ≤ 640 := by
  obtain ⟨h1, h2, h3⟩ := okLen_of h
  have l : F.length ≤ 30 := by rw [len_tl]; exact h2
  exact ⟨intText_digits (x := F) h3 h1 (by omega), by omega⟩
/-! ### number_in -/
def S_number_in (c : CA) (ds : List PyData) (r : Res) : Prop := ∃ (w : Str) (b : Bool), w.length ≤ 10000 ∧ ds = [.str w, .bool b] ∧ r = match numOf w b with
  | none => .er c.nd
  | some v => .ok (.int v)
abbrev t_number_in (K : PySem.W.Frag) (c : CA) (E : XK) : TS :=
  (tSeq (tAsg (tVar 0) (gName 2))
    (tSeq (tIfS (tAnd (tB (tVar 1)) (tTest (tOp (rEq2 K) (tSl rSlS (tVar 0) tNoPart (tPart (tC (.int 1)))) (tC (.str "-"))))) (tAsg (tSl rSlS (tVar 0) (tPart (tC (.int 1))) tNoPart) (gName 2)) tNext)
    (tSeq (tIfS (tOr (tNot (tTest (tChain rLeI rLeI (tC (.int 1)) (tCB (rLenV K) (tCons (tVar 2) tNil)) (tC (.int 30))))) (tNot (tB (tCB (rAll K) (tCons (tLc (iStr (tVar 2)) (gName 3) tYes (tOp rInSign (tVar 3) (tC (.str "0123456789"))) [3]) tNil))))) (tRaiseC c.nd E) tNext)
    (tSeq (tIfS (tAnd (tTest (tOp (rEq2 K) (tOp (rIx K) (tVar 2) (tC (.int 0))) (tC (.str "0")))) (tOr (tTest (tOp rGtI (tCB (rLenV K) (tCons (tVar 2) tNil)) (tC (.int 1)))) (tTest (tOp (rNe2 K) (tVar 2) (tVar 0))))) (tRaiseC c.nd E) tNext)
    (tSeq (tIfS (tTest (tOp (rNe2 K) (tVar 2) (tVar 0))) (tRet (tUn (rU fun i => .int (-i)) (tCB rIntS (tCons (tVar 2) tNil)))) tNext)
    (tRet (tCB rIntS (tCons (tVar 2) tNil))))))))
abbrev N_number_in : List Str := ["word", "is_below", "figures", "sign"]
theorem ev_allDig {F : Str} {j : Nat} (hF : EvD K te Γ (.str F)) (hz : F.length ≤ 10000) (hj : j < Γ.length) : EvD K (tCB (rAll K) (tCons (tLc (iStr te) (gName j) tYes (tOp rInSign (tVar j) (tC (.str "0123456789"))) [j]) tNil)) Γ (.bool (digs (tl F))) := by
  have e := eo_mapS (K := K) (Γ := Γ) (j := j) (te := te) (te2 := tOp rInSign (tVar j) (tC (.str "0123456789"))) F (fun c => .bool (decide (48 ≤ c) && decide (c ≤ 57))) hF (by omega) fun c _ => evd_eq (ev_inSign (ev_var (by rw [List.getElem?_set_self (by simp [wipeE]; exact hj)])) ev_str) (by rw [mem_digits])
  refine evd_eq (ev_all (bs := (tl F).map fun c => decide (48 ≤ c) && decide (c ≤ 57)) (evd_eq e.toD (by rw [List.map_map]; rfl))) ?_
  rw [List.all_map]
  rfl
theorem ht_number_in (h : S_number_in c ds r) : HT K E (t_number_in K c E) (env0 N_number_in ds) (Post r) := by
  obtain ⟨w, b, hz, rfl, rfl⟩ := h
  show HT K E _ [.da (.str w), .da (.bool b), .no, .no] _
  have sl : (10000 : Nat) ≤ sizeLine := by decide
  refine ht_seq (ht_asg (ev_var rfl) ?_)
  -- the figures
  refine ht_seq (ht_imp (P := fun o => ∃ F : Str, tl F = figs w b ∧ o = .nx [.da (.str w), .da (.bool b), .da (.str F), .no]) (ht_if (et_and (et_B (ev_var rfl)) fun _ => evt_eq (et_test (ev_eqS (ev_cutS (lo := none) (hi := some ((1 : Nat) : Int)) (ev_var rfl) ep_none (ep_some ev_int) (by omega)) ev_str)) (minus_iff w)) (fun h => ?_) (fun h => ?_)) ?_)
  · have h' : b = true ∧ (tl w).take 1 = [45] := by simpa using h
    refine ht_asg (ev_cutS (lo := some ((1 : Nat) : Int)) (hi := none) (ev_var rfl) (ep_some ev_int) ep_none (by omega)) ⟨_, ?_, rfl⟩
    rw [tl_cut_drop, figs, if_pos h']
  · have h' : ¬ (b = true ∧ (tl w).take 1 = [45]) := fun z => by rw [z.1, z.2] at h; simp at h
    exact ht_next ⟨w, by rw [figs, if_neg h'], rfl⟩
  rintro _ ⟨F, hF, rfl⟩
  show HT K E _ [.da (.str w), .da (.bool b), .da (.str F), .no] _
  have lF : F.length ≤ 10000 := by
    rw [len_tl, hF]
    rw [len_tl] at hz
    rcases figs_cases w b with e | ⟨_, e⟩
    · rw [e]; exact hz
    · rw [e] at hz; simp at hz; omega
  have neq : (!decide (F = w)) = decide (figs w b ≠ tl w) := by
    rw [← hF, Bool.eq_iff_iff]
    simp [str_eq]
  have nz : F.length ≤ sizeLine := by omega
  refine ht_seq (ht_if (b := !okLen (figs w b)) (evt_eq (et_or (et_not (et_test (ev_leLe ev_int (ev_lenS (ev_var rfl) nz) ev_int))) fun _ => et_not (et_B (ev_allDig (ev_var rfl) lF (by simp)))) ?_) (fun h => ?_) (fun h => ht_next ?_))
  · unfold okLen
    rw [← hF, len_tl]
    have e1 : decide ((1 : Int) ≤ ((tl F).length : Int)) = decide (1 ≤ (tl F).length) := by rw [decide_eq_decide]; omega
    have e2 : decide (((tl F).length : Int) ≤ 30) = decide ((tl F).length ≤ 30) := by rw [decide_eq_decide]; omega
    rw [e1, e2]
    generalize decide (1 ≤ (tl F).length) = a1
    generalize decide ((tl F).length ≤ 30) = a2
    generalize digs (tl F) = a3
    cases a1 <;> cases a2 <;> cases a3 <;> rfl
  · refine ht_raise ?_
    have : ¬ okLen (figs w b) = true := by simpa using h
    unfold numOf
    rw [if_neg this]; rfl
  have ok : okLen (figs w b) = true := by simpa using h
  have en : numOf w b = if (figs w b).head? = some 48 ∧ (1 < (figs w b).length ∨ figs w b ≠ tl w) then none else some (valOf w (figs w b)) := by unfold numOf; rw [if_pos ok]
  obtain ⟨o1, o2, o3⟩ := okLen_of ok
  obtain ⟨hd, tlF, hc⟩ : ∃ x t, tl F = x :: t := by
    rw [hF]
    cases e : figs w b with
    | nil => exact absurd e o1
    | cons x t => exact ⟨x, t, rfl⟩
  have e0 : EvD K (tOp (rIx K) (tVar 2) (tC (.int 0))) [.da (.str w), .da (.bool b), .da (.str F), .no] (sg hd) := ev_ixS (ev_var rfl) ev_int nz (atI_of (by decide) (by show (tl F)[0]? = _; rw [hc]; rfl))
  have z0 : decide ((⟨#[hd]⟩ : Str) = Str.ofString "0") = decide ((figs w b).head? = some 48) := by
    rw [decide_eq_decide, str_eq, tl_nought, ← hF, hc]
    show [hd] = [48] ↔ some hd = some 48
    simp
  refine ht_seq (ht_if (b := decide ((figs w b).head? = some 48 ∧ (1 < (figs w b).length ∨ figs w b ≠ tl w))) (evt_eq (et_and (et_test (ev_eqS e0 ev_str)) fun _ => et_or (et_test (ev_gt (ev_lenS (ev_var rfl) nz) ev_int)) fun _ => et_test (ev_neS (ev_var rfl) (ev_var rfl))) ?_) (fun h => ?_) (fun h => ht_next ?_))
  · rw [z0, neq, len_tl, hF, Bool.eq_iff_iff]
    simp
    intro _
    constructor
    · rintro (h | h)
      · left; omega
      · right; exact h
    · rintro (h | h)
      · left; omega
      · right; exact h
  · have h := of_decide_eq_true h
    refine ht_raise ?_
    rw [en, if_pos h]; rfl
  have h := of_decide_eq_false h
  rw [if_neg h] at en
  rw [en]
  obtain ⟨iv, il⟩ := int_figs (F := F) (by rw [hF]; exact ok)
  rw [hF] at iv
  refine ht_seq (ht_if (b := decide (figs w b ≠ tl w)) (evt_eq (et_test (ev_neS (ev_var rfl) (ev_var rfl))) neq) (fun h => ?_) (fun h => ht_next ?_))
  · have h := of_decide_eq_true h
    refine ht_ret (ev_neg (ev_intS (ev_var rfl) iv il)) ?_
    show PyData.int _ = .int (valOf w (figs w b))
    unfold valOf
    rw [if_pos h]
  · have h := of_decide_eq_false h
    refine ht_ret (ev_intS (ev_var rfl) iv il) ?_
    show PyData.int _ = .int (valOf w (figs w b))
    unfold valOf
    rw [if_neg h]
/-! ### _law_number -/
def S_law_number (c : CA) (ds : List PyData) (r : Res) : Prop := ∃ w : Str, w.length ≤ 10000 ∧ ds = [.str w] ∧ r = .ok (match lawNum w with
  | none => .none
  | some v => .int v)
abbrev t_law_number (K : PySem.W.Frag) (c : CA) (E : XK) : TS :=
  (tSeq (tAsg (tVar 0) (gName 1))
    (tSeq (tIfS (tTest (tOp (rEq2 K) (tSl rSlS (tVar 0) tNoPart (tPart (tC (.int 1)))) (tC (.str "-")))) (tAsg (tSl rSlS (tVar 0) (tPart (tC (.int 1))) tNoPart) (gName 1)) tNext)
    (tSeq (tIfS (tNot (tTest (tChain rLeI rLeI (tC (.int 1)) (tCB (rLenV K) (tCons (tVar 1) tNil)) (tC (.int 30))))) (tRet (tC .non)) tNext)
    (tSeq (tFor (iStr (tVar 1)) (gName 2) (tIfS (tTest (tOp rNotSign (tVar 2) (tC (.str "0123456789")))) (tRet (tC .non)) tNext))
    (tRet (tCB rIntS (tCons (tVar 0) tNil)))))))
abbrev N_law_number : List Str := ["_law_word", "_law_figures", "_law_sign"]
theorem ht_law_number (h : S_law_number c ds r) : HT K E (t_law_number K c E) (env0 N_law_number ds) (Post r) := by
  obtain ⟨w, hz, rfl, rfl⟩ := h
  show HT K E _ [.da (.str w), .no, .no] _
  have sl : (10000 : Nat) ≤ sizeLine := by decide
  refine ht_seq (ht_asg (ev_var rfl) ?_)
  refine ht_seq (ht_imp (P := fun o => ∃ F : Str, tl F = figs w true ∧ o = .nx [.da (.str w), .da (.str F), .no]) (ht_if (evt_eq (et_test (ev_eqS (ev_cutS (lo := none) (hi := some ((1 : Nat) : Int)) (ev_var rfl) ep_none (ep_some ev_int) (by omega)) ev_str)) (minus_iff w)) (fun h => ?_) (fun h => ?_)) ?_)
  · have h' := of_decide_eq_true h
    refine ht_asg (ev_cutS (lo := some ((1 : Nat) : Int)) (hi := none) (ev_var rfl) (ep_some ev_int) ep_none (by omega)) ⟨_, ?_, rfl⟩
    rw [tl_cut_drop, figs, if_pos ⟨rfl, h'⟩]
  · have h' := of_decide_eq_false h
    exact ht_next ⟨w, by rw [figs, if_neg (fun z => h' z.2)], rfl⟩
  rintro _ ⟨F, hF, rfl⟩
  show HT K E _ [.da (.str w), .da (.str F), .no] _
  have lF : F.length ≤ 10000 := by
    rw [len_tl, hF]
    rw [len_tl] at hz
    rcases figs_cases w true with e | ⟨_, e⟩
    · rw [e]; exact hz
    · rw [e] at hz; simp at hz; omega
  have nz : F.length ≤ sizeLine := by omega
  have e1 : decide ((1 : Int) ≤ ((tl F).length : Int)) = decide (1 ≤ (tl F).length) := by rw [decide_eq_decide]; omega
  have e2 : decide (((tl F).length : Int) ≤ 30) = decide ((tl F).length ≤ 30) := by rw [decide_eq_decide]; omega
  have no : ¬ okLen (figs w true) = true → Post (.ok (match lawNum w with | none => PyData.none | some v => .int v)) (.rt .none) := fun h => by
    unfold lawNum; rw [if_neg h]; rfl
  refine ht_seq (ht_if (b := !(decide (1 ≤ (tl F).length) && decide ((tl F).length ≤ 30))) (evt_eq (et_not (et_test (ev_leLe ev_int (ev_lenS (ev_var rfl) nz) ev_int))) (by rw [len_tl, e1, e2])) (fun h => ?_) (fun h => ht_next ?_))
  · refine ht_ret ev_non (no fun z => ?_)
    rw [← hF] at z
    unfold okLen at z
    rw [(Bool.and_eq_true_iff.mp z).1] at h
    cases h
  have hlen : (decide (1 ≤ (tl F).length) && decide ((tl F).length ≤ 30)) = true := by simpa using h
  refine ht_seq (ht_forS F (fun i Γ' => (∃ s, Γ' = [.da (.str w), .da (.str F), s]) ∧ digs ((tl F).take i) = true) (ev_var rfl) ⟨⟨_, rfl⟩, rfl⟩ ?_ ?_)
  · rintro i x Γ' hi ⟨⟨s, rfl⟩, hd⟩
    have hm : x ∈ tl F := List.mem_of_getElem? hi
    refine ht_if (b := !(decide (48 ≤ x) && decide (x ≤ 57))) (evt_eq (et_test (ev_notSign (ev_var rfl) ev_str)) (by rw [mem_digits])) (fun h => ?_) (fun h => ht_next ⟨⟨_, rfl⟩, ?_⟩)
    · refine ht_ret ev_non (no fun z => ?_)
      obtain ⟨_, _, z3⟩ := okLen_of z
      have := z3 x (by rw [← hF]; exact hm)
      simp at h
      omega
    · have h : (decide (48 ≤ x) && decide (x ≤ 57)) = true := by simpa using h
      rw [take_more hi]
      unfold digs at hd ⊢
      rw [List.all_append, hd]
      simp only [List.all_cons, List.all_nil, h, Bool.and_true]
  · rintro Γ' ⟨⟨s, rfl⟩, hd⟩
    rw [List.take_length] at hd
    have ok : okLen (figs w true) = true := by
      rw [← hF]
      unfold okLen
      rw [hlen, hd]; rfl
    obtain ⟨o1, o2, o3⟩ := okLen_of ok
    have hv : PySem.intText? w = some (valOf w (figs w true)) ∧ w.length ≤ 640 := by
      rcases figs_cases w true with e | ⟨_, e⟩
      · rw [e] at ok ⊢
        have := int_figs ok
        unfold valOf
        rw [if_neg (fun z => z rfl)]; exact this
      · have l : w.length ≤ 31 := by rw [len_tl, e]; simp; omega
        refine ⟨?_, by omega⟩
        have := intText_neg (x := w) e o3 o1 (by omega)
        rw [this]
        unfold valOf
        rw [if_pos (fun z => by rw [z] at e; have := congrArg List.length e; simp at this)]
    refine ht_ret (ev_intS (ev_var rfl) hv.1 hv.2) ?_
    unfold lawNum
    rw [if_pos ok]; rfl
/-! ### read_row -/
theorem split_len {y : Str} {s : Nat} (ey : tl y = [s]) (hk : y.cps.all (· < 256) = true) {x : Str} {n : Nat} (h : x.length ≤ n) : (∀ p ∈ Txt.split x y, p.length ≤ n) ∧ (Txt.split x y).length ≤ n + 1 := by
  have e := (split_parts ey hk x).2.2
  have l : ∀ ps : List Str, (∀ p ∈ ps, p.length ≤ (Txt.join y ps).length) ∧ ps.length ≤ (Txt.join y ps).length + 1 := by
    intro ps
    have yl : y.length = 1 := by rw [len_tl, ey]; rfl
    induction ps with
    | nil => exact ⟨fun _ h => (nomatch h), Nat.zero_le _⟩
    | cons a t ih =>
      cases t with
      | nil =>
        refine ⟨fun p hp => ?_, by simp⟩
        rw [List.mem_singleton.mp hp]
        exact Nat.le_refl _
      | cons b t =>
        have ej : Txt.join y (a :: b :: t) = a ++ y ++ Txt.join y (b :: t) := by rw [join_eq, join_eq]; rfl
        rw [ej]
        simp only [Str.length_append]
        refine ⟨fun p hp => ?_, ?_⟩
        · rcases List.mem_cons.mp hp with z | z
          · rw [z]; omega
          · have := ih.1 p z; omega
        · have := ih.2
          rw [List.length_cons]
          omega
  have := l (Txt.split x y)
  rw [← e] at this
  exact ⟨fun p hp => Nat.le_trans (this.1 p hp) h, by omega⟩
theorem len_one (y : Str) (s : Nat) (ey : tl y = [s]) : (y.length == 0) = false := by rw [len_tl, ey]; rfl
theorem ev_word {ws : List Str} {i : Nat} (ha : EvD K ta Γ (.list (ws.map .str))) (hb : EvD K tb Γ (.int (i : Int))) (h : i < ws.length) : EvD K (tOp (rIx K) ta tb) Γ (.str (ws.getD i (Str.ofString ""))) :=
  ev_ixL ha hb (by
    have := atI_map (f := PyData.str) (xs := ws) (i := (i : Int)) (by omega) (by omega) (Str.ofString "")
    rwa [Int.toNat_natCast] at this)
def pD (x : Int × Int) : PyData := .tuple [.int x.1, .int x.2]
def S_read_row (c : CA) (ds : List PyData) (r : Res) : Prop := ∃ (row : Str) (k n : Nat), row.length ≤ 10000 ∧ k ≤ 8 ∧ n ≤ 8 ∧ ds = [.str row, .int (k : Int), .int (n : Int)] ∧ r = match rowOf row k n with
  | none => .er c.nd
  | some x => .ok (pD x)
abbrev t_read_row (K : PySem.W.Frag) (c : CA) (E : XK) : TS :=
  (tSeq (tAsg (tSplit K (tVar 0) (tC (.str " "))) (gName 3))
    (tSeq (tIfS (tOr (tTest (tOp (rNe2 K) (tCB (rLenV K) (tCons (tVar 3) tNil)) (tC (.int 5)))) (tOr (tTest (tOp (rNe2 K) (tOp (rIx K) (tVar 3) (tC (.int 0))) (tJoin [(tFmt (tVar 1)), (tC (.str ":"))]))) (tOr (tTest (tOp (rNe2 K) (tOp (rIx K) (tVar 3) (tC (.int 1))) (tC (.str "room")))) (tTest (tOp (rNe2 K) (tOp (rIx K) (tVar 3) (tC (.int 3))) (tC (.str "pays"))))))) (tRaiseC c.nd E) tNext)
    (tSeq (tAsg (tCall (spOf K (S_number_in c)) [] E (tCons (tOp (rIx K) (tVar 3) (tC (.int 2))) (tCons (tC (.bl false)) tNil))) (gName 4))
    (tSeq (tAsg (tSplit K (tOp (rIx K) (tVar 3) (tC (.int 4))) (tC (.str "/"))) (gName 5))
    (tSeq (tIfS (tOr (tTest (tOp (rNe2 K) (tCB (rLenV K) (tCons (tVar 5) tNil)) (tC (.int 2)))) (tOr (tTest (tOp (rNe2 K) (tCall (spOf K (S_number_in c)) [] E (tCons (tOp (rIx K) (tVar 5) (tC (.int 1))) (tCons (tC (.bl false)) tNil))) (tVar 2))) (tTest (tOp rGeI (tVar 4) (tVar 2))))) (tRaiseC c.nd E) tNext)
    (tRet (tTup (tCons (tVar 4) (tCons (tCall (spOf K (S_number_in c)) [] E (tCons (tOp (rIx K) (tVar 5) (tC (.int 0))) (tCons (tC (.bl true)) tNil))) tNil)))))))))
abbrev N_read_row : List Str := ["row", "lodger", "many", "words", "room", "ends"]
theorem ex_nonD {ta' : TA} {S : List PyData → Res → Prop} {C : Addr} (h : EvA K ta' Γ ds) (hs : S ds (.er C)) : EvX K E (tCall (spOf K S) [] E ta') Γ C := ex_call h hs
theorem ht_read_row (h : S_read_row c ds r) : HT K E (t_read_row K c E) (env0 N_read_row ds) (Post r) := by
  obtain ⟨row, k, n, hz, k8, n8, rfl, rfl⟩ := h
  show HT K E _ [.da (.str row), .da (.int (k : Int)), .da (.int (n : Int)), .no, .no, .no] _
  obtain ⟨wl, wn⟩ := split_len tl_blank k_blank hz
  have small : ∀ {m : Nat}, m ≤ 8 → ((m : Int)).natAbs < 10 ^ 100 := fun {m} h => Nat.lt_of_le_of_lt (show ((m : Int)).natAbs ≤ 8 by rw [Int.natAbs_natCast]; exact h) (by decide +kernel)
  have lk : (sI (k : Int)).length ≤ 2 := sI_len (by decide) (Nat.lt_of_le_of_lt (show ((k : Int)).natAbs ≤ 8 by rw [Int.natAbs_natCast]; exact k8) (by decide))
  refine ht_seq (ht_asg (EvO.toD (eo_split (ev_var rfl) ev_str (len_one _ _ tl_blank) (by omega))) ?_)
  have er : rowOf row k n = rowOf row k n := rfl
  unfold rowOf at er
  simp only at er
  revert er
  generalize hws : Txt.split row (Str.ofString " ") = ws at wl wn
  intro er
  show HT K E _ [.da (.str row), .da (.int (k : Int)), .da (.int (n : Int)), .da (.list (ws.map .str)), .no, .no] _
  have lws : (ws.map PyData.str).length = ws.length := by rw [List.length_map]
  have fmtk : ∀ {Γ' : Env}, Γ'[1]? = some (.da (.int (k : Int))) → EvD K (tJoin [(tFmt (tVar 1)), (tC (.str (Str.ofString ":")))]) Γ' (.str (sI (k : Int) ++ Str.ofString ":")) := fun {Γ'} h1 => by
    refine ev_joined (ej_cons (ev_fmt (ev_var h1) (small k8)) (by show 0 + _ ≤ _; omega) ?_)
    rw [Str.empty_append]
    exact ej_cons ev_str (by have : (Str.ofString ":").length = 1 := by decide +kernel
                             omega) ej_nil
  have rw_ : rowOf row k n = if ws.length ≠ 5 ∨ ws.getD 0 (Str.ofString "") ≠ sI (k : Int) ++ Str.ofString ":" ∨ ws.getD 1 (Str.ofString "") ≠ Str.ofString "room" ∨ ws.getD 3 (Str.ofString "") ≠ Str.ofString "pays" then none else
      match numOf (ws.getD 2 (Str.ofString "")) false with
      | none => none
      | some r =>
        if (Txt.split (ws.getD 4 (Str.ofString "")) (Str.ofString "/")).length ≠ 2 then none else
        match numOf ((Txt.split (ws.getD 4 (Str.ofString "")) (Str.ofString "/")).getD 1 (Str.ofString "")) false with
        | none => none
        | some m => if m ≠ (n : Int) ∨ (n : Int) ≤ r then none else
          match numOf ((Txt.split (ws.getD 4 (Str.ofString "")) (Str.ofString "/")).getD 0 (Str.ofString "")) true with
          | none => none
          | some p => some (r, p) := by
    rw [← hws]; rfl
  clear er
  by_cases l5 : ws.length = 5
  · have w : ∀ i, i < 5 → (ws.getD i (Str.ofString "")).length ≤ 10000 := fun i hi => wl _ (getD_mem (by omega))
    have ew : ∀ {Γ' : Env} (i : Nat), i < 5 → Γ'[3]? = some (.da (.list (ws.map .str))) → EvD K (tOp (rIx K) (tVar 3) (tC (.int (i : Int)))) Γ' (.str (ws.getD i (Str.ofString ""))) := fun {Γ'} i hi h3 => ev_word (i := i) (ev_var h3) ev_int (by omega)
    refine ht_seq (ht_if (b := decide (ws.length ≠ 5 ∨ ws.getD 0 (Str.ofString "") ≠ sI (k : Int) ++ Str.ofString ":" ∨ ws.getD 1 (Str.ofString "") ≠ Str.ofString "room" ∨ ws.getD 3 (Str.ofString "") ≠ Str.ofString "pays")) (evt_eq (et_or (et_test (ev_neI (ev_lenL (ev_var rfl)) ev_int)) fun _ => et_or (et_test (ev_neS (ew 0 (by decide) rfl) (fmtk rfl))) fun _ => et_or (et_test (ev_neS (ew 1 (by decide) rfl) ev_str)) fun _ => et_test (ev_neS (ew 3 (by decide) rfl) ev_str)) ?_) (fun h => ?_) (fun h => ht_next ?_))
    · rw [lws, l5, Bool.eq_iff_iff]
      simp [-List.getD_eq_getElem?_getD]
    · have h := of_decide_eq_true h
      refine ht_raise ?_
      rw [rw_, if_pos h]; rfl
    have h := of_decide_eq_false h
    rw [if_neg h] at rw_
    have c2 : ∀ {x : Option Int}, numOf (ws.getD 2 (Str.ofString "")) false = x → S_number_in c [.str (ws.getD 2 (Str.ofString "")), .bool false] (match x with | none => .er c.nd | some v => .ok (.int v)) := fun hx => ⟨_, false, w 2 (by decide), rfl, by rw [hx]⟩
    cases e2 : numOf (ws.getD 2 (Str.ofString "")) false with
    | none =>
      rw [e2] at rw_
      rw [rw_]
      exact ht_seq (ht_asgX (ex_call (ea_cons (ew 2 (by decide) rfl) (ea_cons ev_bl ea_nil)) (c2 e2)) rfl)
    | some r' =>
      rw [e2] at rw_
      simp only at rw_
      refine ht_seq (ht_asg (ev_call (ea_cons (ew 2 (by decide) rfl) (ea_cons ev_bl ea_nil)) (c2 e2)) ?_)
      refine ht_seq (ht_asg (EvO.toD (eo_split (ew 4 (by decide) rfl) ev_str (len_one _ _ tl_slash) (by have := w 4 (by decide); omega))) ?_)
      obtain ⟨el, en⟩ := split_len tl_slash k_slash (w 4 (by decide))
      generalize Txt.split (ws.getD 4 (Str.ofString "")) (Str.ofString "/") = es at rw_ el en ⊢
      show HT K E _ [.da (.str row), .da (.int (k : Int)), .da (.int (n : Int)), .da (.list (ws.map .str)), .da (.int r'), .da (.list (es.map .str))] _
      have les : (es.map PyData.str).length = es.length := by rw [List.length_map]
      by_cases l2 : es.length = 2
      · rw [if_neg (fun z => z l2)] at rw_
        have ee : ∀ {Γ' : Env} (i : Nat), i < 2 → Γ'[5]? = some (.da (.list (es.map .str))) → EvD K (tOp (rIx K) (tVar 5) (tC (.int (i : Int)))) Γ' (.str (es.getD i (Str.ofString ""))) := fun {Γ'} i hi h3 => ev_word (i := i) (ev_var h3) ev_int (by omega)
        have ce : ∀ (i : Nat) (b : Bool), i < 2 → ∀ {x : Option Int}, numOf (es.getD i (Str.ofString "")) b = x → S_number_in c [.str (es.getD i (Str.ofString "")), .bool b] (match x with | none => .er c.nd | some v => .ok (.int v)) := fun i b hi {x} hx => ⟨_, b, el _ (getD_mem (by omega)), rfl, by rw [hx]⟩
        cases e3 : numOf (es.getD 1 (Str.ofString "")) false with
        | none =>
          rw [e3] at rw_
          rw [rw_]
          refine ht_seq (ht_ifX (xt_orR (evt_eq (et_test (ev_neI (ev_lenL (ev_var rfl)) ev_int)) (by rw [les, l2]; rfl)) (xt_orL (xt_test (ex_opL (ex_call (ea_cons (ee 1 (by decide) rfl) (ea_cons ev_bl ea_nil)) (ce 1 false (by decide) e3)))))) rfl)
        | some m =>
          rw [e3] at rw_
          simp only at rw_
          refine ht_seq (ht_if (b := decide (m ≠ (n : Int) ∨ (n : Int) ≤ r')) (evt_eq (et_or (et_test (ev_neI (ev_lenL (ev_var rfl)) ev_int)) fun _ => et_or (et_test (ev_neI (ev_call (ea_cons (ee 1 (by decide) rfl) (ea_cons ev_bl ea_nil)) (ce 1 false (by decide) e3)) (ev_var rfl))) fun _ => et_test (ev_ge (ev_var rfl) (ev_var rfl))) ?_) (fun h => ?_) (fun h => ht_next ?_))
          · rw [les, l2, Bool.eq_iff_iff]
            simp
          · have h := of_decide_eq_true h
            refine ht_raise ?_
            rw [rw_, if_pos h]; rfl
          have h := of_decide_eq_false h
          rw [if_neg h] at rw_
          cases e4 : numOf (es.getD 0 (Str.ofString "")) true with
          | none =>
            rw [e4] at rw_
            rw [rw_]
            exact ht_retX (ex_tup (xa_tail (ev_var rfl) (xa_head (ex_call (ea_cons (ee 0 (by decide) rfl) (ea_cons ev_bl ea_nil)) (ce 0 true (by decide) e4))))) rfl
          | some p =>
            rw [e4] at rw_
            rw [rw_]
            exact ht_ret (ev_tup (ea_cons (ev_var rfl) (ea_cons (ev_call (ea_cons (ee 0 (by decide) rfl) (ea_cons ev_bl ea_nil)) (ce 0 true (by decide) e4)) ea_nil)) (by simp)) rfl
      · rw [if_pos l2] at rw_
        rw [rw_]
        refine ht_seq (ht_if (b := true) (evt_eq (et_or (b := false) (et_test (ev_neI (ev_lenL (ev_var rfl)) ev_int)) fun z => ?_) ?_) (fun _ => ht_raise rfl) (fun z => nomatch z))
        · rw [les] at z
          simp at z
          omega
        · rw [les]
          simp
          omega
  · rw [if_pos (.inl l5)] at rw_
    rw [rw_]
    refine ht_seq (ht_if (b := true) (evt_eq (et_or (b := false) (et_test (ev_neI (ev_lenL (ev_var rfl)) ev_int)) fun z => ?_) ?_) (fun _ => ht_raise rfl) (fun z => nomatch z))
    · rw [lws] at z
      simp at z
      omega
    · rw [lws]
      simp
      omega
/-! ### the deal of a text -/
def rowsGo (n : Nat) : Nat → List Str → Option (List (Int × Int))
  | _, [] => some []
  | k, row :: rest => match rowOf row k n with
    | none => none
    | some x => match rowsGo n (k + 1) rest with
      | none => none
      | some xs => some (x :: xs)
theorem rowsGo_cons (n k : Nat) (row : Str) (rest : List Str) : rowsGo n k (row :: rest) = match rowOf row k n with
    | none => none
    | some x => match rowsGo n (k + 1) rest with
      | none => none
      | some xs => some (x :: xs) := by rw [rowsGo]
def natsOf (rs : List (Int × Int)) : List Nat := rs.map fun x => x.1.toNat
def partsIn (rs : List (Int × Int)) (n : Nat) : Nat → List Int
  | 0 => List.replicate n 0
  | k + 1 => (partsIn rs n k).set (rs.getD k (0, 0)).1.toNat (rs.getD k (0, 0)).2
def dealOf (x : Str) : Option (List (Int × Int)) :=
  if 8 < (Txt.split x "\n").length then none else
  match rowsGo (Txt.split x "\n").length 0 (Txt.split x "\n") with
  | none => none
  | some rs => if (natsOf rs).Nodup then some rs else none
def dealD (rs : List (Int × Int)) : PyData := .tuple [li (rs.map (·.1)), li (partsIn rs rs.length rs.length)]
theorem rowsGo_len {n : Nat} : ∀ {k : Nat} {rows : List Str} {rs : List (Int × Int)}, rowsGo n k rows = some rs → rs.length = rows.length
  | k, [], rs, h => by cases h; rfl
  | k, row :: rest, rs, h => by
    unfold rowsGo at h
    cases e : rowOf row k n with
    | none => rw [e] at h; cases h
    | some x =>
      rw [e] at h
      cases e2 : rowsGo n (k + 1) rest with
      | none => rw [e2] at h; cases h
      | some xs =>
        rw [e2] at h
        cases h
        simp [rowsGo_len e2]
theorem rowsGo_all {n : Nat} (n8 : n ≤ 8) : ∀ {k : Nat} {rows : List Str} {rs : List (Int × Int)}, rowsGo n k rows = some rs → ∀ x ∈ rs, ∃ j : Nat, x.1 = (j : Int) ∧ j < n
  | k, [], rs, h, x, hx => by cases h; cases hx
  | k, row :: rest, rs, h, x, hx => by
    unfold rowsGo at h
    cases e : rowOf row k n with
    | none => rw [e] at h; cases h
    | some y =>
      rw [e] at h
      cases e2 : rowsGo n (k + 1) rest with
      | none => rw [e2] at h; cases h
      | some xs =>
        rw [e2] at h
        cases h
        rcases List.mem_cons.mp hx with z | z
        · subst z
          obtain ⟨r, p⟩ := x
          obtain ⟨j, h1, h2, _⟩ := (rowOf_iff n8).mp e
          exact ⟨j, h1, h2⟩
        · exact rowsGo_all n8 e2 x z
theorem nats_ln {rs : List (Int × Int)} {n : Nat} (h : ∀ x ∈ rs, ∃ j : Nat, x.1 = (j : Int) ∧ j < n) : li (rs.map (·.1)) = ln (natsOf rs) := by
  show PyData.list _ = .list _
  unfold natsOf
  rw [List.map_map, List.map_map]
  congr 1
  refine List.map_congr_left fun x hx => ?_
  obtain ⟨j, e, _⟩ := h x hx
  show PyData.int x.1 = .int ((x.1.toNat : Nat) : Int)
  rw [e, Int.toNat_natCast]
theorem nats_lt {rs : List (Int × Int)} {n : Nat} (h : ∀ x ∈ rs, ∃ j : Nat, x.1 = (j : Int) ∧ j < n) : ∀ r ∈ natsOf rs, r < n := fun r hr => by
  obtain ⟨x, hx, rfl⟩ := List.mem_map.mp hr
  obtain ⟨j, e, hj⟩ := h x hx
  rw [e, Int.toNat_natCast]; exact hj
theorem places_iff {R : List Nat} {n : Nat} (h : ∀ r ∈ R, r < n) : isPlaces (ln R) n = decide R.Nodup := by
  rw [Bool.eq_iff_iff, decide_eq_true_eq]
  constructor
  · intro z
    obtain ⟨R', e, _, nd⟩ := isPlaces_of z
    rw [ln_inj e]; exact nd
  · exact fun nd => places_ln h nd
theorem partsIn_len {rs : List (Int × Int)} {n : Nat} : ∀ k, (partsIn rs n k).length = n
  | 0 => by simp [partsIn]
  | k + 1 => by simp [partsIn, partsIn_len k]
theorem natsOf_at {rs : List (Int × Int)} {k : Nat} (h : k < rs.length) : (natsOf rs).getD k 0 = (rs.getD k (0, 0)).1.toNat := by
  unfold natsOf
  rw [List.getD_eq_getElem?_getD, List.getD_eq_getElem?_getD, List.getElem?_map, List.getElem?_eq_getElem h]; rfl
theorem partsIn_at {rs : List (Int × Int)} {n : Nat} (nd : (natsOf rs).Nodup) (lt : ∀ r ∈ natsOf rs, r < n) : ∀ k, k ≤ rs.length → ∀ j, j < k → (partsIn rs n k).getD ((natsOf rs).getD j 0) 0 = (rs.getD j (0, 0)).2
  | 0, _, j, hj => absurd hj (Nat.not_lt_zero _)
  | k + 1, hk, j, hj => by
    have ln' : (natsOf rs).length = rs.length := by simp [natsOf]
    have hkk := natsOf_at (rs := rs) (k := k) (by omega)
    unfold partsIn
    rw [← hkk]
    by_cases e : j = k
    · subst e
      rw [List.getD_eq_getElem?_getD, List.getElem?_set_self (by rw [partsIn_len]; exact lt _ (getD_mem (by omega)))]; rfl
    · rw [List.getD_eq_getElem?_getD, List.getElem?_set_ne (fun z => e (getD_inj nd (by omega) (by omega) z).symm), ← List.getD_eq_getElem?_getD]
      exact partsIn_at nd lt k (by omega) j (by omega)
/-! ### read -/
def isStr : PyData → Bool
  | .str _ => true
  | _ => false
theorem kit_strD : ∀ d : PyData, kitB (tyD d) "str" = some (isStr d)
  | .none => by decide +kernel
  | .bool b => by show kitB "bool" "str" = some false; decide +kernel
  | .int i => by show kitB "int" "str" = some false; decide +kernel
  | .str s => by show kitB "str" "str" = some true; decide +kernel
  | .list xs => by show kitB "list" "str" = some false; decide +kernel
  | .tuple xs => by show kitB "tuple" "str" = some false; decide +kernel
  | .dict [] => by show kitB "dict" "str" = some false; decide +kernel
  | .dict (_ :: _) => by show kitB "list" "str" = some false; decide +kernel
def readR (c : CA) : PyData → Res
  | .str x => match dealOf x with
    | none => .er c.nd
    | some rs => .ok (dealD rs)
  | _ => .er c.nd
def S_read (c : CA) (ds : List PyData) (r : Res) : Prop := ∃ d : PyData, (∀ x, d = .str x → x.length ≤ 10000) ∧ ds = [d] ∧ r = readR c d
abbrev t_read (K : PySem.W.Frag) (c : CA) (E : XK) : TS :=
  (tSeq (tIfS (tNot (tB (tCB (rIsi K) (tCons (tVar 0) (tCons (tC (.ty "str")) tNil))))) (tRaiseC c.nd E) tNext)
    (tSeq (tAsg (tSplit K (tVar 0) (tC (.str "\n"))) (gName 1))
    (tSeq (tIfS (tTest (tOp rGtI (tCB (rLenV K) (tCons (tVar 1) tNil)) (tC (.int 8)))) (tRaiseC c.nd E) tNext)
    (tSeq (tAsg (tLst tNil) (gName 2))
    (tSeq (tFor (iRng1 (tCons (tCB (rLenV K) (tCons (tVar 1) tNil)) tNil)) (gName 3) (tDrop (tBM K "list" rAppend (tVar 2) (tCons (tCall (spOf K (S_read_row c)) [] E (tCons (tOp (rIx K) (tVar 1) (tVar 3)) (tCons (tVar 3) (tCons (tCB (rLenV K) (tCons (tVar 1) tNil)) tNil)))) tNil))))
    (tSeq (tAsg (tLc (iList K (tVar 2)) (gTup K 2 (gCons (gName 6) (gCons (gName 7) gNil))) tYes (tVar 6) [6, 7]) (gName 4))
    (tSeq (tIfS (tNot (tB (tCall (spOf K (S_are_places c)) [] E (tCons (tVar 4) (tCons (tCB (rLenV K) (tCons (tVar 4) tNil)) tNil))))) (tRaiseC c.nd E) tNext)
    (tSeq (tAsg (tOp rMul2 (tLst (tCons (tC (.int 0)) tNil)) (tCB (rLenV K) (tCons (tVar 4) tNil))) (gName 5))
    (tSeq (tFor (iList K (tVar 2)) (gTup K 2 (gCons (gName 6) (gCons (gName 7) gNil))) (tAsg (tVar 7) (gSub (tVar 5) (tVar 6) rSetL)))
    (tRet (tTup (tCons (tVar 4) (tCons (tVar 5) tNil)))))))))))))
abbrev N_read : List Str := ["text", "rows", "found", "lodger", "rooms", "parts", "room", "part"]
theorem drop_at {rows : List Str} {i : Nat} (h : i < rows.length) : rows.drop i = rows.getD i (Str.ofString "") :: rows.drop (i + 1) := by
  rw [List.drop_eq_getElem_cons h, List.getD_eq_getElem?_getD, List.getElem?_eq_getElem h]; rfl
theorem ht_read (h : S_read c ds r) : HT K E (t_read K c E) (env0 N_read ds) (Post r) := by
  obtain ⟨d, hz, rfl, rfl⟩ := h
  show HT K E _ [.da d, .no, .no, .no, .no, .no, .no, .no] _
  by_cases hs : isStr d = true
  · obtain ⟨x, rfl⟩ : ∃ x, d = .str x := by
      cases d with
      | str x => exact ⟨x, rfl⟩
      | _ => cases hs
    have hz := hz x rfl
    refine ht_seq (ht_if (b := false) (evt_eq (et_not (et_B (ev_isi (ev_var rfl) (kit_strD _)))) rfl) (fun z => nomatch z) fun _ => ht_next ?_)
    refine ht_seq (ht_asg (EvO.toD (eo_split (ev_var rfl) ev_str (len_one _ _ tl_line) (by omega))) ?_)
    obtain ⟨wl, wn⟩ := split_len tl_line k_line hz
    have hdl : dealOf x = if 8 < (Txt.split x (Str.ofString "\n")).length then none else
      match rowsGo (Txt.split x (Str.ofString "\n")).length 0 (Txt.split x (Str.ofString "\n")) with
      | none => none
      | some rs => if (natsOf rs).Nodup then some rs else none := rfl
    generalize Txt.split x (Str.ofString "\n") = rows at hdl wl wn ⊢
    show HT K E _ [.da (.str x), .da (.list (rows.map .str)), .no, .no, .no, .no, .no, .no] _
    have lr : (rows.map PyData.str).length = rows.length := by rw [List.length_map]
    have bad : dealOf x = none → Post (readR c (.str x)) (.ex c.nd) := fun h => by show Post (match dealOf x with | none => _ | some rs => _) _; rw [h]; rfl
    refine ht_seq (ht_if (b := decide (8 < rows.length)) (evt_eq (et_test (ev_gt (ev_lenL (ev_var rfl)) ev_int)) (by rw [lr, decide_eq_decide]; omega)) (fun h => ?_) (fun h => ht_next ?_))
    · exact ht_raise (bad (by rw [hdl, if_pos (of_decide_eq_true h)]))
    have n8 : rows.length ≤ 8 := by have := of_decide_eq_false h; omega
    rw [if_neg (of_decide_eq_false h)] at hdl
    generalize hn : rows.length = n at n8 hdl lr
    refine ht_seq (ht_asgO (eo_lst ea_nil (by simp)) ?_)
    refine ht_seq (ht_forR (n := (n : Int)) (fun i Γ' => ∃ s3 done, Γ' = [.da (.str x), .da (.list (rows.map .str)), .ow (done.map pD), s3, .no, .no, .no, .no] ∧ done.length = i ∧ rowsGo n 0 rows = match rowsGo n i (rows.drop i) with
      | none => none
      | some t => some (done ++ t)) (ea_cons (evd_eq (ev_lenL (ev_var rfl)) (by rw [lr])) ea_nil) (by omega) ⟨_, [], rfl, rfl, ?_⟩ ?_ ?_)
    · rw [List.drop_zero]
      cases rowsGo n 0 rows with
      | none => rfl
      | some t => rfl
    · rintro i Γ' hi ⟨s3, done, rfl, hd, he⟩
      have hi : i < n := by omega
      have hi' : i < rows.length := by omega
      rw [drop_at hi', rowsGo_cons] at he
      have wr : (rows.getD i (Str.ofString "")).length ≤ 10000 := wl _ (getD_mem hi')
      have args : ∀ Γ' : Env, Γ'[1]? = some (.da (.list (rows.map .str))) → Γ'[3]? = some (.da (.int (i : Int))) → EvA K (tCons (tOp (rIx K) (tVar 1) (tVar 3)) (tCons (tVar 3) (tCons (tCB (rLenV K) (tCons (tVar 1) tNil)) tNil))) Γ' [.str (rows.getD i (Str.ofString "")), .int (i : Int), .int (n : Int)] := fun Γ' h1 h3 =>
        ea_cons (ev_word (ev_var h1) (ev_var h3) hi') (ea_cons (ev_var h3) (ea_cons (evd_eq (ev_lenL (ev_var h1)) (by rw [lr])) ea_nil))
      cases e : rowOf (rows.getD i (Str.ofString "")) i n with
      | none =>
        rw [e] at he
        refine ht_appX (i := 2) rfl (ex_call (args _ rfl rfl) ⟨_, i, n, wr, by omega, n8, rfl, by rw [e]⟩) (bad ?_)
        rw [hdl, he]
      | some y =>
        rw [e] at he
        refine ht_app rfl (ev_call (args _ rfl rfl) ⟨_, i, n, wr, by omega, n8, rfl, by rw [e]⟩) (by rw [List.length_map]; omega) ⟨_, done ++ [y], by rw [List.map_append]; rfl, by simp [hd], ?_⟩
        rw [he]
        simp only
        cases rowsGo n (i + 1) (rows.drop (i + 1)) with
        | none => rfl
        | some t => simp
    · rintro Γ' ⟨s3, done, rfl, hd, he⟩
      rw [Int.toNat_natCast] at hd he
      rw [List.drop_eq_nil_of_le (by omega)] at he
      have he : rowsGo n 0 rows = some done := by rw [he]; simp [rowsGo]
      rw [he] at hdl
      simp only at hdl
      have all := rowsGo_all n8 he
      have lt := nats_lt all
      have nn : (natsOf done).length = n := by simp [natsOf, hd]
      refine ht_frz (i := 2) rfl ?_
      show HT K E _ [.da (.str x), .da (.list (rows.map .str)), .da (.list (done.map pD)), s3, .no, .no, .no, .no] _
      have er := eo_lcL (K := K) (Γ := [.da (.str x), .da (.list (rows.map .str)), .da (.list (done.map pD)), s3, .no, .no, .no, .no]) (tl := tVar 2) (tt := tYes) (te := tVar 6) (g := gTup K 2 (gCons (gName 6) (gCons (gName 7) gNil))) (vs := [6, 7]) done pD (fun _ => true) (fun y => .int y.1)
        (fun y => ((wipeE [.da (.str x), .da (.list (rows.map .str)), .da (.list (done.map pD)), s3, .no, .no, .no, .no] [6, 7]).set 6 (.da (.int y.1))).set 7 (.da (.int y.2))) (ev_var rfl) (by omega) (fun y _ => tg_tup2) (fun y _ => et_yes) (fun y _ _ => ev_var rfl)
      rw [filter_yes] at er
      have ed : PyData.list (done.map fun y => PyData.int y.1) = ln (natsOf done) := by rw [← nats_ln all]; show _ = PyData.list _; rw [List.map_map]; rfl
      refine ht_seq (ht_asg (d := ln (natsOf done)) (evd_eq (EvO.toD er) ed) ?_)
      show HT K E _ [.da (.str x), .da (.list (rows.map .str)), .da (.list (done.map pD)), s3, .da (ln (natsOf done)), .no, .no, .no] _
      have ll : (lnL (natsOf done)).length = n := by rw [List.length_map, nn]
      refine ht_seq (ht_if (b := !decide (natsOf done).Nodup) (evt_eq (et_not (et_B (ev_call (ea_cons (ev_var rfl) (ea_cons (ev_lenL (ev_var rfl)) ea_nil)) ⟨ln (natsOf done), n, by rw [ll], okR_ln (by omega), rfl⟩))) (by rw [places_iff lt])) (fun h => ?_) (fun h => ht_next ?_))
      · have h : ¬ (natsOf done).Nodup := by simpa using h
        exact ht_raise (bad (by rw [hdl, if_neg h]))
      have nd : (natsOf done).Nodup := by simpa using h
      rw [if_pos nd] at hdl
      refine ht_seq (ht_asgO (ev_rep (n := (n : Int)) (EvO.toD (eo_lst (ea_cons ev_int ea_nil) (by simp))) (evd_eq (ev_lenL (ev_var rfl)) (by rw [ll])) (by omega)) ?_)
      refine ht_seq (ht_forL (ws := [6, 7]) done pD (fun Γ' y => (Γ'.set 6 (.da (.int y.1))).set 7 (.da (.int y.2))) (fun i Γ' => ∃ s6 s7, Γ' = [.da (.str x), .da (.list (rows.map .str)), .da (.list (done.map pD)), s3, .da (ln (natsOf done)), .ow ((partsIn done n i).map .int), s6, s7]) (ev_var rfl) ⟨.no, .no, ?_⟩ (fun Γ' y _ => tg_tup2) ?_ ?_)
      · rw [Int.toNat_natCast]
        show _ = [Sl.da (.str x), _, _, _, _, .ow ((List.replicate n (0 : Int)).map .int), .no, .no]
        rw [List.map_replicate]
        rfl
      · rintro i y Γ' hi ⟨s6, s7, rfl⟩
        obtain ⟨j, ej, hj⟩ := all y (List.mem_of_getElem? hi)
        refine ht_set (k := y.1) rfl (ev_var rfl) (ev_var rfl) (by omega) (by rw [List.length_map, partsIn_len]; omega) ⟨.da (.int y.1), .da (.int y.2), ?_⟩
        have gy : done.getD i (0, 0) = y := by rw [List.getD_eq_getElem?_getD, hi]; rfl
        show [Sl.da (.str x), _, _, _, _, .ow (((partsIn done n i).map PyData.int).set y.1.toNat (.int y.2)), _, _] = _
        have ep : partsIn done n (i + 1) = (partsIn done n i).set y.1.toNat y.2 := by rw [← gy]; rfl
        rw [← List.map_set, ep]
      · rintro Γ' ⟨s6, s7, rfl⟩
        refine ht_frz (i := 5) rfl ?_
        refine ht_ret (ev_tup (ea_cons (ev_var rfl) (ea_cons (ev_var rfl) ea_nil)) (by simp)) ?_
        have e1 : PyData.tuple [ln (natsOf done), .list ((partsIn done n done.length).map .int)] = dealD done := by
          unfold dealD
          rw [nats_ln all, hd]
        have good : Post (readR c (.str x)) (.rt (dealD done)) := by
          show Post (match dealOf x with | none => _ | some rs => _) _
          rw [hdl]; rfl
        rw [← e1] at good
        exact good
  · have hs' : isStr d = false := by simpa using hs
    refine ht_seq (ht_if (b := true) (evt_eq (et_not (et_B (ev_isi (ev_var rfl) (kit_strD _)))) (by rw [hs']; rfl)) (fun _ => ht_raise ?_) (fun z => nomatch z))
    cases d with
    | str x => cases hs'
    | _ => rfl
/-! ### _law_deal -/
def S_law_deal (c : CA) (ds : List PyData) (r : Res) : Prop := ∃ x : Str, x.length ≤ 10000 ∧ ds = [.str x] ∧ r = .ok (match dealOf x with
  | none => .none
  | some rs => dealD rs)
abbrev t_law_deal (K : PySem.W.Frag) (c : CA) (E : XK) : TS :=
  (tSeq (tAsg (tSplit K (tVar 0) (tC (.str "\n"))) (gName 1))
    (tSeq (tAsg (tLst tNil) (gName 2))
    (tSeq (tAsg (tLst tNil) (gName 3))
    (tSeq (tFor (iList K (tVar 1)) (gName 4) (tSeq (tAsg (tSplit K (tVar 4) (tC (.str " "))) (gName 5))
    (tSeq (tIfS (tOr (tTest (tOp (rNe2 K) (tCB (rLenV K) (tCons (tVar 5) tNil)) (tC (.int 5)))) (tTest (tOp rGtI (tCB (rLenV K) (tCons (tVar 1) tNil)) (tC (.int 8))))) (tRet (tC .non)) tNext)
    (tSeq (tAsg (tCall (spOf K (S_law_number c)) [] E (tCons (tOp (rIx K) (tVar 5) (tC (.int 2))) tNil)) (gName 6))
    (tSeq (tAsg (tCall (spOf K (S_law_number c)) [] E (tCons (tOp (rIx K) (tSplit K (tOp (rIx K) (tVar 5) (tC (.int 4))) (tC (.str "/"))) (tC (.int 0))) tNil)) (gName 7))
    (tSeq (tIfS (tOr (tTest (tOp rIsN (tVar 6) (tC .non))) (tOr (tTest (tOp rIsN (tVar 7) (tC .non))) (tOr (tTest (tOp rLtI (tVar 6) (tC (.int 0)))) (tOr (tTest (tOp rGeI (tVar 6) (tCB (rLenV K) (tCons (tVar 1) tNil)))) (tTest (tOp (rIn K false) (tVar 6) (tVar 2))))))) (tRet (tC .non)) tNext)
    (tSeq (tAsg (tOp rAdd3 (tOp rAdd3 (tCB rStrI (tCons (tCB (rLenV K) (tCons (tVar 2) tNil)) tNil)) (tC (.str ": room "))) (tCB rStrI (tCons (tVar 6) tNil))) (gName 8))
    (tSeq (tIfS (tTest (tOp (rNe2 K) (tVar 4) (tOp rAdd3 (tOp rAdd3 (tOp rAdd3 (tOp rAdd3 (tVar 8) (tC (.str " pays "))) (tCB rStrI (tCons (tVar 7) tNil))) (tC (.str "/"))) (tCB rStrI (tCons (tCB (rLenV K) (tCons (tVar 1) tNil)) tNil))))) (tRet (tC .non)) tNext)
    (tSeq (tDrop (tBM K "list" rAppend (tVar 2) (tCons (tVar 6) tNil)))
    (tDrop (tBM K "list" rAppend (tVar 3) (tCons (tVar 7) tNil))))))))))))
    (tRet (tTup (tCons (tVar 2) (tCons (tLc (iRng1 (tCons (tCB (rLenV K) (tCons (tVar 2) tNil)) tNil)) (gName 6) tYes (tOp (rIx K) (tVar 3) (tBM K "list" (rIndex K) (tVar 2) (tCons (tVar 6) tNil))) [6]) tNil))))))))
abbrev N_law_deal : List Str := ["_law_text", "_law_rows", "_law_rooms", "_law_shares", "_law_row", "_law_words", "_law_room", "_law_part", "_law_start"]
theorem rowT_eq (i : Nat) (r p : Int) (n : Nat) (hr : 0 ≤ r) : sI (i : Int) ++ Str.ofString ": room " ++ sI r ++ Str.ofString " pays " ++ sI p ++ Str.ofString "/" ++ sI (n : Int) = rowT i r.toNat p n := by
  unfold rowT
  have : ((r.toNat : Nat) : Int) = r := by omega
  rw [this]
theorem len_sI {v : Int} (h : v.natAbs < 10 ^ 30) : (sI v).length ≤ 31 := sI_len (by decide) h
theorem big30 {v : Int} (h : v.natAbs < 10 ^ 30) : v.natAbs < 10 ^ 100 := Nat.lt_of_lt_of_le h (Nat.pow_le_pow_right (by decide) (by decide))
theorem words_law {i j n : Nat} {p : Int} (n8 : n ≤ 8) (hj : j < n) (hp : p.natAbs < 10 ^ 30) {row : Str} (h : row = rowT i j p n) :
    (Txt.split row " ").length = 5 ∧ lawNum ((Txt.split row " ").getD 2 (Str.ofString "")) = some (j : Int) ∧ lawNum ((Txt.split ((Txt.split row " ").getD 4 (Str.ofString "")) "/").getD 0 (Str.ofString "")) = some p := by
  subst h
  rw [row_split]
  refine ⟨rfl, ?_, ?_⟩
  · exact lawNum_sI (by rw [Int.natAbs_natCast]; exact Nat.lt_of_lt_of_le (Nat.lt_of_lt_of_le hj n8) (by decide))
  · have g4 : (wordsT i j p n).getD 4 (Str.ofString "") = sI p ++ Str.ofString "/" ++ sI (n : Int) := rfl
    rw [g4, ends_split]
    exact lawNum_sI hp
def numD : Option Int → PyData
  | none => .none
  | some v => .int v
theorem numD_law (w : Str) : (match lawNum w with | none => PyData.none | some v => .int v) = numD (lawNum w) := by
  cases lawNum w <;> rfl
theorem isNone_numD (o : Option Int) : isNone (numD o) = o.isNone := by cases o <;> rfl
theorem ht_law_deal (h : S_law_deal c ds r) : HT K E (t_law_deal K c E) (env0 N_law_deal ds) (Post r) := by
  obtain ⟨x, hz, rfl, rfl⟩ := h
  show HT K E _ [.da (.str x), .no, .no, .no, .no, .no, .no, .no, .no] _
  refine ht_seq (ht_asg (EvO.toD (eo_split (ev_var rfl) ev_str (len_one _ _ tl_line) (by omega))) ?_)
  obtain ⟨wl, wn⟩ := split_len tl_line k_line hz
  have hdl : dealOf x = if 8 < (Txt.split x (Str.ofString "\n")).length then none else
    match rowsGo (Txt.split x (Str.ofString "\n")).length 0 (Txt.split x (Str.ofString "\n")) with
    | none => none
    | some rs => if (natsOf rs).Nodup then some rs else none := rfl
  generalize Txt.split x (Str.ofString "\n") = rows at hdl wl wn ⊢
  have lr : (rows.map PyData.str).length = rows.length := by rw [List.length_map]
  have bad : dealOf x = none → Post (.ok (match dealOf x with | none => PyData.none | some rs => dealD rs)) (.rt .none) := fun h => by rw [h]; rfl
  generalize hn : rows.length = n at hdl lr wn
  refine ht_seq (ht_asgO (eo_lst ea_nil (by simp)) ?_)
  refine ht_seq (ht_asgO (eo_lst ea_nil (by simp)) ?_)
  refine ht_seq (ht_forN rows PyData.str (fun i Γ' => ∃ s4 s5 s6 s7 s8 done, Γ' = [.da (.str x), .da (.list (rows.map .str)), .ow (done.map fun y : Int × Int => .int y.1), .ow (done.map fun y : Int × Int => .int y.2), s4, s5, s6, s7, s8] ∧ done.length = i ∧ (i = 0 ∨ n ≤ 8) ∧ (natsOf done).Nodup ∧ (∀ y ∈ done, ∃ j : Nat, y.1 = (j : Int) ∧ j < n) ∧ rowsGo n 0 rows = match rowsGo n i (rows.drop i) with
      | none => none
      | some t => some (done ++ t)) (ev_var rfl) ⟨_, _, _, _, _, [], rfl, rfl, .inl rfl, List.nodup_nil, fun _ h => (nomatch h), ?_⟩ ?_ ?_)
  · rw [List.drop_zero]
    cases rowsGo n 0 rows with
    | none => rfl
    | some t => rfl
  · rintro i row Γ' hi ⟨s4, s5, s6, s7, s8, done, rfl, hd, _, nd, all, he⟩
    have hi' : i < rows.length := (List.getElem?_eq_some_iff.mp hi).1
    have er : rows.getD i (Str.ofString "") = row := by rw [List.getD_eq_getElem?_getD, hi]; rfl
    have wr : row.length ≤ 10000 := wl _ (List.mem_of_getElem? hi)
    rw [drop_at hi', er, rowsGo_cons] at he
    have noRow : n ≤ 8 → rowOf row i n = none → dealOf x = none := fun n8 e => by
      rw [e] at he
      rw [hdl, if_neg (by omega), he]
    obtain ⟨vl, vn⟩ := split_len tl_blank k_blank wr
    have wlaw : ∀ (j : Nat) (p : Int), n ≤ 8 → j < n → p.natAbs < 10 ^ 30 → row = rowT i j p n → (Txt.split row (Str.ofString " ")).length = 5 ∧ lawNum ((Txt.split row (Str.ofString " ")).getD 2 (Str.ofString "")) = some (j : Int) ∧ lawNum ((Txt.split ((Txt.split row (Str.ofString " ")).getD 4 (Str.ofString "")) (Str.ofString "/")).getD 0 (Str.ofString "")) = some p := fun j p n8 hj hp h => words_law n8 hj hp h
    refine ht_seq (ht_asg (EvO.toD (eo_split (ev_var rfl) ev_str (len_one _ _ tl_blank) (by omega))) ?_)
    generalize Txt.split row (Str.ofString " ") = ws at vl vn wlaw ⊢
    show HT K E _ [.da (.str x), .da (.list (rows.map .str)), .ow (done.map fun y : Int × Int => .int y.1), .ow (done.map fun y : Int × Int => .int y.2), .da (.str row), .da (.list (ws.map .str)), s6, s7, s8] _
    have lws : (ws.map PyData.str).length = ws.length := by rw [List.length_map]
    refine ht_seq (ht_if (b := decide (ws.length ≠ 5 ∨ 8 < n)) (evt_eq (et_or (et_test (ev_neI (ev_lenL (ev_var rfl)) ev_int)) fun _ => et_test (ev_gt (ev_lenL (ev_var rfl)) ev_int)) ?_) (fun h => ?_) (fun h => ht_next ?_))
    · rw [lws, lr, Bool.eq_iff_iff]
      simp
      omega
    · have h := of_decide_eq_true h
      refine ht_ret ev_non (bad ?_)
      by_cases n8 : n ≤ 8
      · refine noRow n8 ?_
        cases e : rowOf row i n with
        | none => rfl
        | some y =>
          obtain ⟨r', p'⟩ := y
          obtain ⟨j, h1, h2, h3, h4⟩ := (rowOf_iff n8).mp e
          have := (wlaw j p' n8 h2 h3 h4).1
          omega
      · rw [hdl, if_pos (by omega)]
    have h := of_decide_eq_false h
    have n8 : n ≤ 8 := by omega
    have l5 : ws.length = 5 := by omega
    have w : ∀ i, i < 5 → (ws.getD i (Str.ofString "")).length ≤ 10000 := fun i hi => vl _ (getD_mem (by omega))
    have ew : ∀ {Γ' : Env} (i : Nat), i < 5 → Γ'[5]? = some (.da (.list (ws.map .str))) → EvD K (tOp (rIx K) (tVar 5) (tC (.int (i : Int)))) Γ' (.str (ws.getD i (Str.ofString ""))) := fun {Γ'} i hi h3 => ev_word (i := i) (ev_var h3) ev_int (by omega)
    have noRow := noRow n8
    have wlaw := fun j p => wlaw j p n8
    refine ht_seq (ht_asg (d := numD (lawNum (ws.getD 2 (Str.ofString "")))) (ev_call (ea_cons (ew 2 (by decide) rfl) ea_nil) ⟨_, w 2 (by decide), rfl, by rw [numD_law]⟩) ?_)
    obtain ⟨el, en⟩ := split_len tl_slash k_slash (w 4 (by decide))
    have ene := (split_parts tl_slash k_slash (ws.getD 4 (Str.ofString ""))).1
    have ee : EvD K (tOp (rIx K) (tSplit K (tOp (rIx K) (tVar 5) (tC (.int 4))) (tC (.str (Str.ofString "/")))) (tC (.int 0))) [.da (.str x), .da (.list (rows.map .str)), .ow (done.map fun y : Int × Int => .int y.1), .ow (done.map fun y : Int × Int => .int y.2), .da (.str row), .da (.list (ws.map .str)), .da (numD (lawNum (ws.getD 2 (Str.ofString "")))), s7, s8] (.str ((Txt.split (ws.getD 4 (Str.ofString "")) (Str.ofString "/")).getD 0 (Str.ofString ""))) := ev_word (i := 0) (EvO.toD (eo_split (ew 4 (by decide) rfl) ev_str (len_one _ _ tl_slash) (by have := w 4 (by decide); omega))) ev_int (by
      cases e : Txt.split (ws.getD 4 (Str.ofString "")) (Str.ofString "/") with
      | nil => exact absurd e ene
      | cons a t => simp)
    have l7 : ((Txt.split (ws.getD 4 (Str.ofString "")) (Str.ofString "/")).getD 0 (Str.ofString "")).length ≤ 10000 := by
      refine el _ (getD_mem ?_)
      cases e : Txt.split (ws.getD 4 (Str.ofString "")) (Str.ofString "/") with
      | nil => exact absurd e ene
      | cons a t => simp
    refine ht_seq (ht_asg (d := numD (lawNum ((Txt.split (ws.getD 4 (Str.ofString "")) (Str.ofString "/")).getD 0 (Str.ofString "")))) (ev_call (ea_cons ee ea_nil) ⟨_, l7, rfl, by rw [numD_law]⟩) ?_)
    generalize lawNum (ws.getD 2 (Str.ofString "")) = o2 at wlaw ⊢
    have sm7 : ∀ v, lawNum ((Txt.split (ws.getD 4 (Str.ofString "")) (Str.ofString "/")).getD 0 (Str.ofString "")) = some v → v.natAbs < 10 ^ 30 := fun v h => lawNum_small h
    generalize lawNum ((Txt.split (ws.getD 4 (Str.ofString "")) (Str.ofString "/")).getD 0 (Str.ofString "")) = o7 at wlaw sm7 ⊢
    show HT K E _ [.da (.str x), .da (.list (rows.map .str)), .ow (done.map fun y : Int × Int => .int y.1), .ow (done.map fun y : Int × Int => .int y.2), .da (.str row), .da (.list (ws.map .str)), .da (numD o2), .da (numD o7), s8] _
    cases o2 with
    | none =>
      refine ht_seq (ht_if (b := true) (et_or (b := false) (et_test (ev_isN (d := .none) (ev_var rfl))) fun z => nomatch z) (fun _ => ht_ret ev_non (bad (noRow ?_))) (fun z => nomatch z))
      cases e : rowOf row i n with
      | none => rfl
      | some y =>
        obtain ⟨r', p'⟩ := y
        obtain ⟨j, h1, h2, h3, h4⟩ := (rowOf_iff n8).mp e
        exact nomatch (wlaw j p' h2 h3 h4).2.1
    | some r0 =>
      cases o7 with
      | none =>
        refine ht_seq (ht_if (b := true) (evt_eq (et_or (et_test (ev_isN (d := .int r0) (ev_var rfl))) fun _ => et_or (b := false) (et_test (ev_isN (d := .none) (ev_var rfl))) fun z => nomatch z) rfl) (fun _ => ht_ret ev_non (bad (noRow ?_))) (fun z => nomatch z))
        cases e : rowOf row i n with
        | none => rfl
        | some y =>
          obtain ⟨r', p'⟩ := y
          obtain ⟨j, h1, h2, h3, h4⟩ := (rowOf_iff n8).mp e
          exact nomatch (wlaw j p' h2 h3 h4).2.2
      | some p0 =>
        have hp := sm7 p0 rfl
        -- if the row is one of the document's, it is this one
        have same : ∀ y, rowOf row i n = some y → y = (r0, p0) ∧ 0 ≤ r0 ∧ r0 < (n : Int) := fun y e => by
          obtain ⟨r', p'⟩ := y
          obtain ⟨j, h1, h2, h3, h4⟩ := (rowOf_iff n8).mp e
          obtain ⟨_, a2, a3⟩ := wlaw j p' h2 h3 h4
          injection a2 with a2
          injection a3 with a3
          exact ⟨by rw [h1, a2, a3], by omega, by omega⟩
        have lrm : ∀ Γ' : Env, True := fun _ => trivial
        refine ht_seq (ht_if (b := decide (r0 < 0 ∨ (n : Int) ≤ r0 ∨ r0 ∈ done.map (·.1))) (et_frz (evt_eq (et_or (et_test (ev_isN (d := .int r0) (ev_var rfl))) fun _ => et_or (et_test (ev_isN (d := .int p0) (ev_var rfl))) fun _ => et_or (et_test (ev_lt (ev_var rfl) ev_int)) fun _ => et_or (et_test (ev_ge (ev_var rfl) (ev_lenL (ev_var rfl)))) fun _ => et_test (ev_inI (ns := done.map (·.1)) (ev_var rfl) (evd_eq (ev_var rfl) (by rw [List.map_map]; rfl)))) ?_)) (fun h => ?_) (fun h => ht_next ?_))
        · rw [lr]
          simp [isNone]
        · have h := of_decide_eq_true h
          refine ht_ret ev_non (bad ?_)
          cases e : rowOf row i n with
          | none => exact noRow e
          | some y =>
            obtain ⟨e1, e2, e3⟩ := same y e
            have hm : r0 ∈ done.map (·.1) := by
              rcases h with z | z | z
              · omega
              · omega
              · exact z
            rw [e] at he
            simp only at he
            rw [hdl, if_neg (by omega), he]
            cases rowsGo n (i + 1) (rows.drop (i + 1)) with
            | none => rfl
            | some t =>
              simp only
              rw [if_neg]
              intro nd2
              unfold natsOf at nd2
              rw [List.map_append, List.nodup_append] at nd2
              obtain ⟨z, hz', ez⟩ := List.mem_map.mp hm
              refine nd2.2.2 z.1.toNat (List.mem_map.mpr ⟨z, hz', rfl⟩) r0.toNat ?_ (by rw [ez])
              rw [List.map_cons, e1]
              exact List.mem_cons_self
        have h := of_decide_eq_false h
        have r1 : 0 ≤ r0 := by omega
        have r2 : r0 < (n : Int) := by omega
        have r3 : ¬ r0 ∈ done.map (·.1) := fun z => h (.inr (.inr z))
        have bi : ((i : Int)).natAbs < 10 ^ 30 := by rw [Int.natAbs_natCast]; exact Nat.lt_of_lt_of_le (show i < 9 by omega) (by decide)
        have br : r0.natAbs < 10 ^ 30 := Nat.lt_of_lt_of_le (show r0.natAbs < 9 by omega) (by decide)
        have bn : ((n : Int)).natAbs < 10 ^ 30 := by rw [Int.natAbs_natCast]; exact Nat.lt_of_lt_of_le (show n < 9 by omega) (by decide)
        have q1 := len_sI bi
        have q2 := len_sI br
        have q3 := len_sI hp
        have q4 := len_sI bn
        have e1 : (Str.ofString ": room ").length = 7 := by decide +kernel
        have e2 : (Str.ofString " pays ").length = 6 := by decide +kernel
        have e3 : (Str.ofString "/").length = 1 := by decide +kernel
        have sl : (100000 : Nat) ≤ sizeLine := by decide
        have ld : ((done.map fun y : Int × Int => PyData.int y.1).length : Int) = (i : Int) := by rw [List.length_map, hd]
        refine ht_seq (ht_asg (ev_frz (ev_addS (ev_addS (ev_strI (i := (i : Int)) (evd_eq (ev_lenL (ev_var rfl)) (by rw [ld])) (big30 bi)) ev_str (by omega)) (ev_strI (ev_var rfl) (big30 br)) (by simp only [Str.length_append]; omega))) ?_)
        have tx : EvD K (tOp rAdd3 (tOp rAdd3 (tOp rAdd3 (tOp rAdd3 (tVar 8) (tC (.str (Str.ofString " pays ")))) (tCB rStrI (tCons (tVar 7) tNil))) (tC (.str (Str.ofString "/")))) (tCB rStrI (tCons (tCB (rLenV K) (tCons (tVar 1) tNil)) tNil)))
            [.da (.str x), .da (.list (rows.map .str)), .ow (done.map fun y : Int × Int => .int y.1), .ow (done.map fun y : Int × Int => .int y.2), .da (.str row), .da (.list (ws.map .str)), .da (numD (some r0)), .da (numD (some p0)), .da (.str (sI (i : Int) ++ Str.ofString ": room " ++ sI r0))] (.str (rowT i r0.toNat p0 n)) :=
          evd_eq (ev_addS (ev_addS (ev_addS (ev_addS (ev_var rfl) ev_str (by simp only [Str.length_append]; omega)) (ev_strI (i := p0) (ev_var rfl) (big30 hp)) (by simp only [Str.length_append]; omega)) ev_str (by simp only [Str.length_append]; omega)) (ev_strI (i := (n : Int)) (evd_eq (ev_lenL (ev_var rfl)) (by rw [lr])) (big30 bn)) (by simp only [Str.length_append]; omega)) (congrArg PyData.str (rowT_eq i r0 p0 n r1))
        refine ht_seq (ht_if (b := !decide (row = rowT i r0.toNat p0 n)) (et_test (ev_neS (ev_var rfl) tx)) (fun h => ?_) (fun h => ht_next ?_))
        · have h : ¬ row = rowT i r0.toNat p0 n := by simpa using h
          refine ht_ret ev_non (bad (noRow ?_))
          cases e : rowOf row i n with
          | none => rfl
          | some y =>
            obtain ⟨e1, _, _⟩ := same y e
            subst e1
            obtain ⟨j, h1, h2, h3, h4⟩ := (rowOf_iff n8).mp e
            exact absurd (by rw [h4, h1, Int.toNat_natCast]) h
        · have h : row = rowT i r0.toNat p0 n := by simpa using h
          have ok : rowOf row i n = some (r0, p0) := (rowOf_iff n8).mpr ⟨r0.toNat, by omega, by omega, hp, h⟩
          rw [ok] at he
          simp only at he
          refine ht_seq (ht_app (i := 2) rfl (ev_var rfl) (by rw [List.length_map]; omega) ?_)
          refine ht_app (i := 3) rfl (ev_var rfl) (by rw [List.length_map]; omega) ⟨_, _, _, _, _, done ++ [(r0, p0)], by rw [List.map_append, List.map_append]; rfl, by simp [hd], .inr n8, ?_, ?_, ?_⟩
          · unfold natsOf
            rw [List.map_append, List.nodup_append]
            refine ⟨nd, by simp, fun a ha b hb z => ?_⟩
            obtain ⟨y, hy, ey⟩ := List.mem_map.mp ha
            rw [List.map_cons, List.map_nil, List.mem_singleton] at hb
            obtain ⟨j, ej, _⟩ := all y hy
            refine r3 (List.mem_map.mpr ⟨y, hy, ?_⟩)
            omega
          · intro y hy
            rcases List.mem_append.mp hy with z | z
            · exact all y z
            · rw [List.mem_singleton.mp z]
              exact ⟨r0.toNat, by omega, by omega⟩
          · rw [he]
            cases rowsGo n (i + 1) (rows.drop (i + 1)) with
            | none => rfl
            | some t => simp
  · rintro Γ' ⟨s4, s5, s6, s7, s8, done, rfl, hd, hn8, nd, all, he⟩
    rw [hn] at hd he hn8
    have n8 : n ≤ 8 := by omega
    rw [List.drop_eq_nil_of_le (by omega)] at he
    have he : rowsGo n 0 rows = some done := by rw [he]; simp [rowsGo]
    rw [he, if_neg (by omega)] at hdl
    simp only at hdl
    rw [if_pos nd] at hdl
    rw [hdl]
    have lt := nats_lt all
    have nn : (natsOf done).length = n := by simp [natsOf, hd]
    have q : Rms (natsOf done) n := ⟨nn, lt, nd⟩
    refine ht_frz (i := 2) rfl ?_
    refine ht_frz (i := 3) rfl ?_
    have er := nats_ln all
    have er' : PyData.list (done.map fun y => PyData.int y.1) = ln (natsOf done) := by rw [← er]; show _ = PyData.list _; rw [List.map_map]; rfl
    show HT K E _ [.da (.str x), .da (.list (rows.map .str)), .da (.list (done.map fun y : Int × Int => .int y.1)), .da (.list (done.map fun y : Int × Int => .int y.2)), s4, s5, s6, s7, s8] _
    rw [er']
    have es : PyData.list (done.map fun y => PyData.int y.2) = li (done.map (·.2)) := by show _ = PyData.list _; rw [List.map_map]; rfl
    rw [es]
    have ll : (lnL (natsOf done)).length = n := by rw [List.length_map, nn]
    have e := eo_mapR (K := K) (Γ := [.da (.str x), .da (.list (rows.map .str)), .da (ln (natsOf done)), .da (li (done.map (·.2))), s4, s5, s6, s7, s8]) (j := 6) (n := (n : Int)) (ta := tCons (tCB (rLenV K) (tCons (tVar 2) tNil)) tNil) (te := tOp (rIx K) (tVar 3) (tBM K "list" (rIndex K) (tVar 2) (tCons (tVar 6) tNil))) (fun m => .int ((partsIn done n n).getD m 0)) (ea_cons (evd_eq (ev_lenL (ev_var rfl)) (by rw [ll])) ea_nil) (by omega) fun m hm => ?_
    · refine ht_ret (evd_eq (ev_tup (ea_cons (ev_var rfl) (ea_cons (EvO.toD e) ea_nil)) (by simp)) ?_) rfl
      show _ = dealD done
      unfold dealD
      rw [er, hd, Int.toNat_natCast]
      have ep : ((List.range n).map fun m => PyData.int ((partsIn done n n).getD m 0)) = (partsIn done n n).map .int := by
        refine List.ext_getElem? fun m => ?_
        rw [List.getElem?_map, List.getElem?_map]
        by_cases hm : m < n
        · rw [List.getElem?_range hm, List.getElem?_eq_getElem (by rw [partsIn_len]; exact hm)]
          show some (PyData.int ((partsIn done n n).getD m 0)) = _
          rw [List.getD_eq_getElem?_getD, List.getElem?_eq_getElem (by rw [partsIn_len]; exact hm)]; rfl
        · rw [List.getElem?_eq_none (by simp; omega), List.getElem?_eq_none (by rw [partsIn_len]; omega)]; rfl
      rw [ep]
    · have hm : m < n := by omega
      obtain ⟨j, hj, ej⟩ : ∃ j, j < n ∧ (natsOf done).getD j 0 = m := by
        by_cases z : m ∈ natsOf done
        · obtain ⟨p, hp, e⟩ := mem_getD z
          exact ⟨p, by omega, e⟩
        · exfalso
          have := nodup_le (n := n) (Q := m :: natsOf done) (fun y hy => by
            rcases List.mem_cons.mp hy with e | e
            · rw [e]; exact hm
            · exact lt y e) (List.nodup_cons.mpr ⟨z, nd⟩)
          rw [List.length_cons, nn] at this
          omega
      have iv : EvD K (tVar 2) (((wipeE [.da (.str x), .da (.list (rows.map .str)), .da (ln (natsOf done)), .da (li (done.map (·.2))), s4, s5, s6, s7, s8] [6])).set 6 (.da (.int (m : Int)))) (.list (((natsOf done).map fun r : Nat => (r : Int)).map .int)) := by
        rw [List.map_map]; exact ev_var rfl
      have ix := ev_index (ns := (natsOf done).map fun r : Nat => (r : Int)) (j := j) (y := (m : Int)) iv (tb := tVar 6) (ev_var rfl) (by
        rw [List.getElem?_map, ← ej, List.getD_eq_getElem?_getD, List.getElem?_eq_getElem (by omega)]; rfl) fun a ha z => by
          rw [List.getElem?_map] at z
          obtain ⟨b, hb, z⟩ := Option.map_eq_some_iff.mp z
          obtain ⟨hb', e2⟩ := List.getElem?_eq_some_iff.mp hb
          have : a = j := getD_inj nd hb' (by omega) (by
            rw [ej, List.getD_eq_getElem?_getD, List.getElem?_eq_getElem hb', e2]
            show b = _
            omega)
          omega
      refine evd_eq (ev_at (ns := done.map (·.2)) (i := j) (ev_var rfl) ix (by rw [List.length_map]; omega)) ?_
      have pa := partsIn_at nd lt n (by omega) j hj
      rw [ej] at pa
      rw [pa, List.getD_eq_getElem?_getD, List.getD_eq_getElem?_getD, List.getElem?_map, List.getElem?_eq_getElem (by omega)]
      rfl
end
end PD

set_option Elab.async false
set_option linter.all false
set_option maxRecDepth 100000
set_option maxHeartbeats 1000000
set_option exponentiation.threshold 2000
namespace PD
open PySem L2 TL
/-! ### contracts that leave the answer open -/
def spAny (K : PySem.W.Frag) (pre : List PyData → Prop) (post : Out → Prop) : Sp := fun vs H Q E => ∃ (G : Hp) (ds : List PyData), Same G H ∧ AtAll K G vs ds ∧ pre ds ∧ (∀ d v G' H', post (.rt d) → Ext G H G' H' → At K G' v d → Q v H') ∧
  ∀ es p us G' H', post (.ro es) → Ext G H G' H' → H p = none → G' p = none → H' p = some (.lst us) → AtAll K G' us es → Q (.ref p) H'
def PostAny (post : Out → Prop) : Out → Prop
  | .rt d => post (.rt d)
  | .ro es => post (.ro es)
  | _ => False
section
variable {K : PySem.W.Frag} {c : CA} {E : XK} {Γ : Env} {P : Out → Prop} {ds : List PyData} {r : Res} {ta : TA}
theorem body_any {pre : List PyData → Prop} {post : Out → Prop} {N : List Str} {t : TS} {vs : List V} {H : Hp} {Q : VK} (h : spAny K pre post vs H Q E) (hb : ∀ ds, pre ds → HT K E t (env0 N ds) (PostAny post)) : t { nx := fun _ H' => Q .non H', rt := Q } (L2.start N vs) H := by
  obtain ⟨G, ds, gh, a, hp, q1, q2⟩ := h
  exact hb ds hp H G H _ _ (sat_start a) gh (Same.refl H) ⟨fun _ _ _ _ z => False.elim z, fun d v G' H' p st av => q1 d v G' H' p ⟨st.hh, st.gg, st.gh, st.fr⟩ av, fun es p us G' H' z st h0 g0 h1 av => q2 es p us G' H' z ⟨st.hh, st.gg, st.gh, st.fr⟩ h0 g0 h1 av,
    fun _ _ _ _ z => False.elim z, fun _ _ _ _ z => False.elim z, fun _ _ z => False.elim z⟩
theorem ht_asgAny {pre : List PyData → Prop} {post : Out → Prop} {i : Nat} (h : EvA K ta Γ ds) (hp : pre ds) (k1 : ∀ d, post (.rt d) → P (.nx (Γ.set i (.da d)))) (k2 : ∀ es, post (.ro es) → P (.nx (Γ.set i (.ow es)))) : HT K E (tAsg (tCall (spAny K pre post) [] E ta) (gName i)) Γ P := fun H0 G H σ D s gh h0 m =>
  h H0 G H σ s gh _ fun vs G1 H1 e1 a1 => by
    show spAny K pre post (vs ++ []) H1 _ E
    rw [List.append_nil]
    refine ⟨G1, ds, e1.gh, a1, hp, fun d v G' H' z e a => ?_, fun es p us G' H' z e hp gp hp' ha => ?_⟩
    · have e2 := e1.trans e
      exact m.nx _ _ G' H' (k1 d z) (e2.step h0) ((s.ext e2).setD a)
    · have e2 := e1.trans e
      have hq := e1.hh.free hp
      exact m.nx _ _ G' H' (k2 es z) (e2.step h0) ((s.ext e2).setO hp' gp (h0.free hq) ha fun j dj z y => by
        obtain ⟨b, ws, k1, k2, _⟩ := s.ow j dj z
        rw [y] at k1; cases k1
        rw [hq] at k2; cases k2)
theorem len_any {pre : List PyData → Prop} {post : Out → Prop} {n : Nat} (hn : ∀ ds, pre ds → ds.length = n) {vs : List V} {H : Hp} {Q : VK} (h : spAny K pre post vs H Q E) : vs.length = n := by
  obtain ⟨G, ds, gh, a, hp, _⟩ := h
  rw [a.length]; exact hn ds hp
theorem ht_skip {cc : Prop} [Decidable cc] {tt : TT} {t : TS} (h : EvT K tt Γ (decide cc)) (hc : ¬ cc) (p : P (.nx Γ)) : HT K E (tIfS tt t tNext) Γ P := ht_if h (fun z => absurd (of_decide_eq_true z) hc) fun _ => ht_next p
theorem ht_take {cc : Prop} [Decidable cc] {tt : TT} {t u : TS} (h : EvT K tt Γ (decide cc)) (hc : cc) (p : HT K E t Γ P) : HT K E (tIfS tt t u) Γ P := ht_if h (fun _ => p) fun z => absurd hc (of_decide_eq_false z)
theorem et_k {k m : Nat} {te : TE} (h : EvD K te Γ (.int (k : Int))) : EvT K (tTest (tOp (rEq2 K) te (tC (.int (m : Int))))) Γ (decide (k = m)) := evt_eq (et_test (ev_eqI h ev_int)) (by rw [decide_eq_decide]; omega)
/-! ### _law_part_by -/
def partIt12 (x : Int) : Int :=
  if x % 4 = 0 then x / 4 % 41 - 20 else
  if x % 4 = 1 then x / 4 % (2 * 10 ^ (30 : Int).toNat - 1) - 10 ^ (30 : Int).toNat + 1 else
  if x % 4 = 2 then [0, 10 ^ (30 : Int).toNat - 1, 1 - 10 ^ (30 : Int).toNat, 10 ^ (30 : Int).toNat, -1, 9, 10, -(10 ^ (30 : Int).toNat)].getD (x / 4 % 8).toNat 0 else
  x / 4 % 20000000001 - 10000000000
def S_law_part_by_k12 (c : CA) (ds : List PyData) (r : Res) : Prop := ∃ x : Int, ds = [.int x] ∧ r = .ok (.int (partIt12 x))
abbrev t_law_part_by_k12 (K : PySem.W.Frag) (c : CA) (E : XK) : TS :=
  (tSeq (tAsg (tOp rModI (tVar 0) (tC (.int 4))) (gName 1))
    (tSeq (tIfS (tTest (tOp (rEq2 K) (tVar 1) (tC (.int 0)))) (tRet (tOp rSubI (tOp rModI (tOp rDivI (tVar 0) (tC (.int 4))) (tC (.int 41))) (tC (.int 20)))) tNext)
    (tSeq (tIfS (tTest (tOp (rEq2 K) (tVar 1) (tC (.int 1)))) (tRet (tOp rAdd3 (tOp rSubI (tOp rModI (tOp rDivI (tVar 0) (tC (.int 4))) (tOp rSubI (tOp rMul2 (tC (.int 2)) (tOp rPowI (tC (.int 10)) (tC (.int 30)))) (tC (.int 1)))) (tOp rPowI (tC (.int 10)) (tC (.int 30)))) (tC (.int 1)))) tNext)
    (tSeq (tIfS (tTest (tOp (rEq2 K) (tVar 1) (tC (.int 2)))) (tRet (tOp (rIx K) (tLst (tCons (tC (.int 0)) (tCons (tOp rSubI (tOp rPowI (tC (.int 10)) (tC (.int 30))) (tC (.int 1))) (tCons (tOp rSubI (tC (.int 1)) (tOp rPowI (tC (.int 10)) (tC (.int 30)))) (tCons (tOp rPowI (tC (.int 10)) (tC (.int 30))) (tCons (tUn (rU fun i => .int (-i)) (tC (.int 1))) (tCons (tC (.int 9)) (tCons (tC (.int 10)) (tCons (tUn (rU fun i => .int (-i)) (tOp rPowI (tC (.int 10)) (tC (.int 30)))) tNil))))))))) (tOp rModI (tOp rDivI (tVar 0) (tC (.int 4))) (tC (.int 8))))) tNext)
    (tRet (tOp rSubI (tOp rModI (tOp rDivI (tVar 0) (tC (.int 4))) (tC (.int 20000000001))) (tC (.int 10000000000))))))))
abbrev N_law_part_by_k12 : List Str := ["_law_cell", "_law_mode"]
theorem pick_int {ns : List Int} {k : Nat} (h : k < ns.length) : (ns.map PyData.int).getD k .none = .int (ns.getD k 0) := by
  rw [List.getD_eq_getElem?_getD, List.getD_eq_getElem?_getD, List.getElem?_map, List.getElem?_eq_getElem h]
  rfl
theorem ht_law_part_by_k12 (h : S_law_part_by_k12 c ds r) : HT K E (t_law_part_by_k12 K c E) (env0 N_law_part_by_k12 ds) (Post r) := by
  obtain ⟨x, rfl, rfl⟩ := h
  show HT K E _ [.da (.int x), .no] _
  have pw : ∀ {Γ' : Env}, EvD K (tOp rPowI (tC (.int 10)) (tC (.int 30))) Γ' (.int (10 ^ (30 : Int).toNat)) := ev_pow ev_int ev_int ⟨by decide, by decide, by decide⟩
  have go : ∀ {i : Int}, partIt12 x = i → Post (.ok (.int (partIt12 x))) (.rt (.int i)) := fun h => by rw [h]; rfl
  refine ht_seq (ht_asg (ev_mod (ev_var rfl) ev_int (by decide)) ?_)
  refine ht_seq (ht_if (et_test (ev_eqI (ev_var rfl) ev_int)) (fun h => ?_) (fun h => ht_next ?_))
  · have h := of_decide_eq_true h
    exact ht_ret (ev_sub (ev_mod (ev_div (ev_var rfl) ev_int ⟨by decide, by decide⟩) ev_int (by decide)) ev_int) (go (by rw [partIt12, if_pos h]))
  have h0 := of_decide_eq_false h
  refine ht_seq (ht_if (et_test (ev_eqI (ev_var rfl) ev_int)) (fun h => ?_) (fun h => ht_next ?_))
  · have h := of_decide_eq_true h
    exact ht_ret (ev_add (ev_sub (ev_mod (ev_div (ev_var rfl) ev_int ⟨by decide, by decide⟩) (ev_sub (ev_mul ev_int pw (.inl (by decide))) ev_int) (by decide)) pw) ev_int) (go (by rw [partIt12, if_neg h0, if_pos h]))
  have h1 := of_decide_eq_false h
  refine ht_seq (ht_if (et_test (ev_eqI (ev_var rfl) ev_int)) (fun h => ?_) (fun h => ht_next ?_))
  · have h := of_decide_eq_true h
    obtain ⟨k, ek, hk⟩ := rem_of (x / 4) (m := 8) (by decide)
    have hk : k < 8 := by omega
    refine ht_ret (evd_eq (ev_pick (k := k) (ds := [0, 10 ^ (30 : Int).toNat - 1, 1 - 10 ^ (30 : Int).toNat, 10 ^ (30 : Int).toNat, -1, 9, 10, -(10 ^ (30 : Int).toNat)].map PyData.int) (EvO.toD (eo_lst (ea_cons ev_int (ea_cons (ev_sub pw ev_int) (ea_cons (ev_sub ev_int pw) (ea_cons pw (ea_cons (ev_neg ev_int) (ea_cons ev_int (ea_cons ev_int (ea_cons (ev_neg pw) ea_nil)))))))) (by simp))) (evd_eq (ev_mod (ev_div (ev_var rfl) ev_int ⟨by decide, by decide⟩) ev_int (by decide)) (by rw [ek])) (by simp; omega)) (pick_int (by simp; omega))) (go (by rw [partIt12, if_neg h0, if_neg h1, if_pos h, ek, Int.toNat_natCast]))
  have h2 := of_decide_eq_false h
  exact ht_ret (ev_sub (ev_mod (ev_div (ev_var rfl) ev_int ⟨by decide, by decide⟩) ev_int (by decide)) ev_int) (go (by rw [partIt12, if_neg h0, if_neg h1, if_neg h2]))
theorem partIt12_ok (x : Int) : (partIt12 x).natAbs < 10 ^ 40 := by
  have e30 : (10 : Int) ^ (30 : Int).toNat = 1000000000000000000000000000000 := by decide
  have e40 : (10 : Nat) ^ 40 = 10000000000000000000000000000000000000000 := by decide
  unfold partIt12
  rw [e30, e40]
  split
  · omega
  split
  · omega
  split
  · have : (x / 4 % 8).toNat < 8 := by omega
    generalize (x / 4 % 8).toNat = k at this
    match k, this with
    | 0, _ => decide
    | 1, _ => decide
    | 2, _ => decide
    | 3, _ => decide
    | 4, _ => decide
    | 5, _ => decide
    | 6, _ => decide
    | 7, _ => decide
  · omega
/-! ### _law_sign_by -/
def preInt (ds : List PyData) : Prop := ∃ x : Int, ds = [.int x]
def postStr (n : Nat) : Out → Prop
  | .rt d => ∃ x : Str, d = .str x ∧ x.length ≤ n
  | _ => False
abbrev sp_law_sign_by (K : PySem.W.Frag) (c : CA) : Sp := spAny K preInt (postStr 1)
abbrev t_law_sign_by (K : PySem.W.Frag) (c : CA) (E : XK) : TS :=
  (tSeq (tAsg (tC (.str " !\"#$&'()*+,-./0123456789:;<=>?@ABCDEFGHIJKLMNOPQRSTUVWXYZ[\\]^_`")) (gName 1))
    (tSeq (tAsg (tOp rAdd3 (tVar 1) (tC (.str "abcdefghijklmnopqrstuvwxyz{|}~\n\t"))) (gName 1))
    (tRet (tOp (rIx K) (tVar 1) (tOp rModI (tVar 0) (tC (.int 96)))))))
abbrev N_law_sign_by : List Str := ["_law_cell", "_law_some"]
theorem lenr_law_sign_by {vs : List V} {H : Hp} {Q : VK} (h : sp_law_sign_by K c vs H Q E) : vs.length = 1 := len_any (fun ds ⟨x, e⟩ => by rw [e]; rfl) h
theorem htr_law_sign_by {vs : List V} {H : Hp} {Q : VK} (h : sp_law_sign_by K c vs H Q E) : t_law_sign_by K c E { nx := fun _ H' => Q .non H', rt := Q } (L2.start N_law_sign_by vs) H := body_any h fun ds ⟨x, e⟩ => by
  subst e
  show HT K E _ [.da (.int x), .no] _
  refine ht_seq (ht_asg ev_str ?_)
  refine ht_seq (ht_asg (ev_addS (ev_var rfl) ev_str (by decide +kernel)) ?_)
  obtain ⟨k, ek, hk⟩ := rem_of x (m := 96) (by decide)
  have hl : (tl (Str.ofString " !\"#$&'()*+,-./0123456789:;<=>?@ABCDEFGHIJKLMNOPQRSTUVWXYZ[\\]^_`" ++ Str.ofString "abcdefghijklmnopqrstuvwxyz{|}~\n\t")).length = 96 := by decide +kernel
  have hk' : k < (tl (Str.ofString " !\"#$&'()*+,-./0123456789:;<=>?@ABCDEFGHIJKLMNOPQRSTUVWXYZ[\\]^_`" ++ Str.ofString "abcdefghijklmnopqrstuvwxyz{|}~\n\t")).length := by rw [hl]; omega
  refine ht_ret (ev_ixS (i := (k : Int)) (ev_var rfl) (evd_eq (ev_mod (ev_var rfl) ev_int (by decide)) (by rw [ek])) (by decide +kernel) (atI_of (by omega) (by rw [Int.toNat_natCast]; exact List.getElem?_eq_getElem hk'))) ?_
  exact ⟨_, rfl, Nat.le_refl 1⟩
/-! ### _law_rows_by -/
def preRows (ds : List PyData) : Prop := ∃ (ns : List Int) (n : Nat), ns.length ≤ 63 ∧ 1 ≤ n ∧ n ≤ 8 ∧ ds = [scr ns, .int (n : Int)]
def postRows : Out → Prop
  | .ro es => ∃ ys : List Str, es = ys.map .str ∧ 1 ≤ ys.length ∧ ys.length ≤ 8 ∧ ∀ y ∈ ys, y.length ≤ 300
  | _ => False
abbrev sp_law_rows_by (K : PySem.W.Frag) (c : CA) : Sp := spAny K preRows postRows
abbrev t_law_rows_by (K : PySem.W.Frag) (c : CA) (E : XK) : TS :=
  (tSeq (tAsg (tCall (spOf K (S_law_rooms_by c)) [] E (tCons (tCall (spOf K (S_law_cell_at c)) [] E (tCons (tVar 0) (tCons (tC (.int 1)) tNil))) (tCons (tVar 1) tNil))) (gName 2))
    (tSeq (tAsg (tLst tNil) (gName 3))
    (tSeq (tFor (iRng1 (tCons (tVar 1) tNil)) (gName 4) (tSeq (tAsg (tCall (spOf K (S_law_part_by_k12 c)) [] E (tCons (tCall (spOf K (S_law_cell_at c)) [] E (tCons (tVar 0) (tCons (tOp rAdd3 (tC (.int 6)) (tVar 4)) tNil))) tNil)) (gName 5))
    (tSeq (tAsg (tOp rAdd3 (tOp rAdd3 (tCB rStrI (tCons (tVar 4) tNil)) (tC (.str ": room "))) (tCB rStrI (tCons (tOp (rIx K) (tVar 2) (tVar 4)) tNil))) (gName 6))
    (tDrop (tBM K "list" rAppend (tVar 3) (tCons (tOp rAdd3 (tOp rAdd3 (tOp rAdd3 (tOp rAdd3 (tVar 6) (tC (.str " pays "))) (tCB rStrI (tCons (tVar 5) tNil))) (tC (.str "/"))) (tCB rStrI (tCons (tVar 1) tNil))) tNil))))))
    (tSeq (tIfS (tTest (tOp (rEq2 K) (tOp rModI (tOp rDivI (tCall (spOf K (S_law_cell_at c)) [] E (tCons (tVar 0) (tCons (tC (.int 2)) tNil))) (tC (.int 10))) (tC (.int 8))) (tC (.int 1)))) (tSeq (tAsg (tOp rAdd3 (tC (.str "0: room ")) (tCB rStrI (tCons (tOp (rIx K) (tVar 2) (tC (.int 0))) tNil))) (gName 6))
    (tAsg (tOp rAdd3 (tOp rAdd3 (tVar 6) (tOp (rIx K) (tLst (tCons (tC (.str " pays -0/")) (tCons (tC (.str " pays 00/")) (tCons (tC (.str " pays -0/")) (tCons (tC (.str " pays -05/")) tNil))))) (tOp rModI (tCall (spOf K (S_law_cell_at c)) [] E (tCons (tVar 0) (tCons (tC (.int 3)) tNil))) (tC (.int 4))))) (tCB rStrI (tCons (tVar 1) tNil))) (gSub (tVar 3) (tC (.int 0)) rSetL))) tNext)
    (tRet (tVar 3))))))
abbrev N_law_rows_by : List Str := ["_law_script", "_law_many", "_law_rooms", "_law_rows", "_law_lodger", "_law_part", "_law_start"]
theorem lenr_law_rows_by {vs : List V} {H : Hp} {Q : VK} (h : sp_law_rows_by K c vs H Q E) : vs.length = 2 := len_any (fun ds ⟨ns, n, _, _, _, e⟩ => by rw [e]; rfl) h
theorem b100 {v : Int} (h : v.natAbs < 10 ^ 40) : v.natAbs < 10 ^ 100 := Nat.lt_trans h (by decide +kernel)
theorem b8 {m : Nat} (h : m ≤ 8) : ((m : Int)).natAbs < 10 ^ 40 := by rw [Int.natAbs_natCast]; exact Nat.lt_of_le_of_lt h (by decide)
theorem htr_law_rows_by {vs : List V} {H : Hp} {Q : VK} (h : sp_law_rows_by K c vs H Q E) : t_law_rows_by K c E { nx := fun _ H' => Q .non H', rt := Q } (L2.start N_law_rows_by vs) H := body_any h fun ds ⟨ns, n, hn, n1, n8, e⟩ => by
  subst e
  show HT K E _ [.da (scr ns), .da (.int (n : Int)), .no, .no, .no, .no, .no] _
  have q := roomsBy_rms (ce ns 1) n
  refine ht_seq (ht_asg (EvO.toD (eo_call (ea_cons (ev_ce (k := 1) (ev_var rfl) ev_int hn) (ea_cons (ev_var rfl) ea_nil)) ⟨_, n, rfl, n8, rfl⟩)) ?_)
  generalize roomsBy (ce ns 1) n = R at q ⊢
  have sl : (100000 : Nat) ≤ sizeLine := by decide
  have e1 : (Str.ofString ": room ").length = 7 := by decide +kernel
  have e2 : (Str.ofString " pays ").length = 6 := by decide +kernel
  have e3 : (Str.ofString "/").length = 1 := by decide +kernel
  have e4 : (Str.ofString "0: room ").length = 8 := by decide +kernel
  have l8 : ∀ m : Nat, m ≤ 8 → (sI (m : Int)).length ≤ 41 := fun m h => sI_len (by decide) (b8 h)
  have lp : ∀ x : Int, (sI (partIt12 x)).length ≤ 41 := fun x => sI_len (by decide) (partIt12_ok x)
  refine ht_seq (ht_asgO (eo_lst ea_nil (by simp)) ?_)
  refine ht_seq (ht_forR (n := (n : Int)) (fun i Γ' => ∃ s4 s5 s6 ys, Γ' = [.da (scr ns), .da (.int (n : Int)), .da (ln R), .ow (ys.map .str), s4, s5, s6] ∧ ys.length = i ∧ ∀ y ∈ ys, y.length ≤ 300) (ea_cons (ev_var rfl) ea_nil) (by omega) ⟨_, _, _, [], rfl, rfl, fun _ h => nomatch h⟩ ?_ ?_)
  · rintro i Γ' hi ⟨s4, s5, s6, ys, rfl, hy, hb⟩
    have hi : i < n := by omega
    have hr := q.at_lt hi
    have q1 := l8 i (by omega)
    have q2 := l8 (R.getD i 0) (by omega)
    have q3 := l8 n n8
    have q4 := lp (ce ns (6 + i))
    refine ht_seq (ht_asg (ev_call (ea_cons (ev_ce (k := 6 + i) (ev_var rfl) (evd_eq (ev_add ev_int (ev_var rfl)) (congrArg PyData.int (by push_cast; rfl))) hn) ea_nil) ⟨_, rfl, rfl⟩) ?_)
    refine ht_seq (ht_asg (ev_addS (ev_addS (ev_strI (ev_var rfl) (b100 (b8 (m := i) (by omega)))) ev_str (by omega)) (ev_strI (ev_roomOf q (ev_var rfl) (ev_var rfl) hi) (b100 (b8 (m := R.getD i 0) (by omega)))) (by simp only [Str.length_append]; omega)) ?_)
    refine ht_app rfl (ev_addS (ev_addS (ev_addS (ev_addS (ev_var rfl) ev_str (by simp only [Str.length_append]; omega)) (ev_strI (ev_var rfl) (b100 (partIt12_ok _))) (by simp only [Str.length_append]; omega)) ev_str (by simp only [Str.length_append]; omega)) (ev_strI (ev_var rfl) (b100 (b8 n8))) (by simp only [Str.length_append]; omega)) (by rw [List.length_map]; omega) ⟨_, _, _, ys ++ [_], by rw [List.map_append]; rfl, by simp [hy], fun y h => ?_⟩
    rcases List.mem_append.mp h with z | z
    · exact hb y z
    · rw [List.mem_singleton.mp z]
      simp only [Str.length_append]
      omega
  · rintro Γ' ⟨s4, s5, s6, ys, rfl, hy, hb⟩
    rw [Int.toNat_natCast] at hy
    refine ht_seq (ht_imp (P := fun o => ∃ s6 ys, o = .nx [.da (scr ns), .da (.int (n : Int)), .da (ln R), .ow (ys.map .str), s4, s5, s6] ∧ ys.length = n ∧ ∀ y ∈ ys, y.length ≤ 300) (ht_if (et_test (ev_eqI (ev_mod (ev_div (ev_ce (k := 2) (ev_var rfl) ev_int hn) ev_int ⟨by decide, by decide⟩) ev_int (by decide)) ev_int)) (fun h => ?_) (fun h => ht_next ⟨_, ys, rfl, hy, hb⟩)) ?_)
    · have q0 := q.at_lt (show 0 < n by omega)
      have q2 := l8 (R.getD 0 0) (by omega)
      have q3 := l8 n n8
      refine ht_seq (ht_asg (ev_addS ev_str (ev_strI (ev_roomOf (i := 0) q (ev_var rfl) ev_int (by omega)) (b100 (b8 (m := R.getD 0 0) (by omega)))) (by omega)) ?_)
      obtain ⟨k, ek, hk⟩ := rem_of (ce ns 3) (m := 4) (by decide)
      have pk : ∃ z : Str, [PyData.str " pays -0/", .str " pays 00/", .str " pays -0/", .str " pays -05/"].getD k .none = .str z ∧ z.length ≤ 10 := by
        have hk : k < 4 := by omega
        match k, hk with
        | 0, _ => exact ⟨_, rfl, by decide +kernel⟩
        | 1, _ => exact ⟨_, rfl, by decide +kernel⟩
        | 2, _ => exact ⟨_, rfl, by decide +kernel⟩
        | 3, _ => exact ⟨_, rfl, by decide +kernel⟩
      obtain ⟨z, ez, hz⟩ := pk
      refine ht_set (i := 3) (k := 0) rfl (ev_addS (ev_addS (ev_var rfl) (evd_eq (ev_pick (k := k) (EvO.toD (eo_lst (ea_cons ev_str (ea_cons ev_str (ea_cons ev_str (ea_cons ev_str ea_nil)))) (by simp))) (evd_eq (ev_mod (ev_ce (k := 3) (ev_var rfl) ev_int hn) ev_int (by decide)) (by rw [ek])) (by simp; omega)) ez) (by simp only [Str.length_append]; omega)) (ev_strI (ev_var rfl) (b100 (b8 n8))) (by simp only [Str.length_append]; omega)) ev_int (by decide) (by rw [List.length_map]; omega) ⟨_, ys.set 0 _, by rw [List.map_set]; rfl, by rw [List.length_set, hy], fun y h => ?_⟩
      rcases List.mem_or_eq_of_mem_set h with z | z
      · exact hb y z
      · rw [z]
        simp only [Str.length_append]
        omega
    · rintro _ ⟨s6, ys, rfl, hy, hb⟩
      exact ht_retS rfl ⟨ys, rfl, by omega, by omega, hb⟩
end
end PD

set_option Elab.async false
set_option linter.all false
set_option maxRecDepth 100000
set_option maxHeartbeats 1000000
set_option exponentiation.threshold 2000
namespace PD
open PySem L2 TL
section
variable {K : PySem.W.Frag} {c : CA} {E : XK} {Γ : Env} {P : Out → Prop} {ds : List PyData} {r : Res} {ta : TA}
theorem cutS_le (x : Str) (lo hi : Option Int) : (cutS x lo hi).length ≤ x.length := by
  show (List.toArray _).size ≤ x.cps.size
  rw [List.size_toArray]
  refine Nat.le_trans (List.length_take_le' _ _) ?_
  rw [List.length_drop, Array.length_toList]
  exact Nat.sub_le _ _
theorem joinL_le (a : List Nat) : ∀ ys : List (List Nat), (joinL a ys).length ≤ (ys.map (·.length)).sum + ys.length * a.length
  | [] => by simp [joinL]
  | [y] => by simp [joinL]
  | y :: z :: rest => by
    have h := joinL_le a (z :: rest)
    have e : joinL a (y :: z :: rest) = y ++ (a ++ joinL a (z :: rest)) := rfl
    rw [e]
    simp only [List.length_append, List.length_cons, List.map_cons, List.sum_cons, Nat.succ_mul, Nat.add_mul, Nat.one_mul] at h ⊢
    omega
theorem join_le {sep : Str} {ys : List Str} {k n : Nat} (h : ∀ y ∈ ys, y.length ≤ k) (hn : ys.length ≤ n) (hs : sep.length = 1) : (Txt.join sep ys).length ≤ n * (k + 1) := by
  rw [len_tl, join_eq, tl_join]
  refine Nat.le_trans (joinL_le _ _) ?_
  have e : ((ys.map tl).map (·.length)) = ys.map (·.length) := by
    rw [List.map_map]
    exact List.map_congr_left fun y _ => (len_tl y).symm
  rw [e, List.length_map, ← len_tl, hs, Nat.mul_one]
  refine Nat.le_trans (Nat.add_le_add_right (sum_len h) _) ?_
  rw [show ys.length * k + ys.length = ys.length * (k + 1) by rw [Nat.mul_succ]]
  exact Nat.mul_le_mul_right _ hn
def preScr (ds : List PyData) : Prop := ∃ ns : List Int, ns.length ≤ 63 ∧ ds = [scr ns]
abbrev sp_law_text_by (K : PySem.W.Frag) (c : CA) : Sp := spAny K preScr (postStr 10000)
abbrev t_law_text_by (K : PySem.W.Frag) (c : CA) (E : XK) : TS :=
  (tSeq (tAsg (tCall (sp_law_rows_by K c) [] E (tCons (tVar 0) (tCons (tOp rAdd3 (tC (.int 1)) (tOp rModI (tCall (spOf K (S_law_cell_at c)) [] E (tCons (tVar 0) (tCons (tC (.int 0)) tNil))) (tC (.int 8)))) tNil))) (gName 1))
    (tSeq (tAsg (tOp rModI (tCall (spOf K (S_law_cell_at c)) [] E (tCons (tVar 0) (tCons (tC (.int 2)) tNil))) (tC (.int 10))) (gName 2))
    (tSeq (tAsg (tOp rModI (tCall (spOf K (S_law_cell_at c)) [] E (tCons (tVar 0) (tCons (tC (.int 3)) tNil))) (tCB (rLenV K) (tCons (tVar 1) tNil))) (gName 3))
    (tSeq (tIfS (tTest (tOp (rEq2 K) (tVar 2) (tC (.int 0)))) (tRet (tOp (rIx K) (tLst (tCons (tC (.str "")) (tCons (tC (.str "\n")) (tCons (tC (.str "0: room 0 pays 0/1\n")) (tCons (tC (.str "\n0: room 0 pays 0/1")) (tCons (tC (.str "0: room 0 pays -0/1")) (tCons (tC (.str "0: room 0 pays 07/1")) (tCons (tC (.str "0: room 00 pays 7/1")) (tCons (tC (.str "00: room 0 pays 7/1")) (tCons (tC (.str "0: room 0 pays 7/01")) (tCons (tC (.str "0: Room 0 pays 7/1")) (tCons (tC (.str "0: room 0 pays +7/1")) (tCons (tC (.str "0: room 0  pays 7/1")) tNil))))))))))))) (tOp rModI (tCall (spOf K (S_law_cell_at c)) [] E (tCons (tVar 0) (tCons (tC (.int 3)) tNil))) (tC (.int 12))))) tNext)
    (tSeq (tIfS (tTest (tOp (rEq2 K) (tVar 2) (tC (.int 1)))) (tAsg (tOp rAdd3 (tOp rAdd3 (tSl (rSlL K) (tVar 1) tNoPart (tPart (tVar 3))) (tSl (rSlL K) (tVar 1) (tPart (tOp rAdd3 (tVar 3) (tC (.int 1)))) tNoPart)) (tLst (tCons (tOp (rIx K) (tVar 1) (tVar 3)) tNil))) (gName 1)) tNext)
    (tSeq (tIfS (tTest (tOp (rEq2 K) (tVar 2) (tC (.int 2)))) (tAsg (tOp rAdd3 (tOp rAdd3 (tSl (rSlL K) (tVar 1) tNoPart (tPart (tVar 3))) (tLst (tCons (tOp (rIx K) (tVar 1) (tVar 3)) tNil))) (tSl (rSlL K) (tVar 1) (tPart (tVar 3)) tNoPart)) (gName 1)) tNext)
    (tSeq (tIfS (tTest (tOp (rEq2 K) (tVar 2) (tC (.int 3)))) (tAsg (tOp rAdd3 (tSl (rSlL K) (tVar 1) tNoPart (tPart (tVar 3))) (tSl (rSlL K) (tVar 1) (tPart (tOp rAdd3 (tVar 3) (tC (.int 1)))) tNoPart)) (gName 1)) tNext)
    (tSeq (tAsg (tJoinL K (tC (.str "\n")) (tVar 1)) (gName 4))
    (tSeq (tAsg (tOp rModI (tCall (spOf K (S_law_cell_at c)) [] E (tCons (tVar 0) (tCons (tC (.int 4)) tNil))) (tCB rMax2V (tCons (tC (.int 1)) (tCons (tCB (rLenV K) (tCons (tVar 4) tNil)) tNil)))) (gName 5))
    (tSeq (tAsg (tCall (sp_law_sign_by K c) [] E (tCons (tCall (spOf K (S_law_cell_at c)) [] E (tCons (tVar 0) (tCons (tC (.int 5)) tNil))) tNil)) (gName 6))
    (tSeq (tIfS (tTest (tOp (rEq2 K) (tVar 2) (tC (.int 4)))) (tRet (tOp rAdd3 (tOp rAdd3 (tSl rSlS (tVar 4) tNoPart (tPart (tVar 5))) (tVar 6)) (tSl rSlS (tVar 4) (tPart (tVar 5)) tNoPart))) tNext)
    (tSeq (tIfS (tTest (tOp (rEq2 K) (tVar 2) (tC (.int 5)))) (tRet (tOp rAdd3 (tSl rSlS (tVar 4) tNoPart (tPart (tVar 5))) (tSl rSlS (tVar 4) (tPart (tOp rAdd3 (tVar 5) (tC (.int 1)))) tNoPart))) tNext)
    (tSeq (tIfS (tTest (tOp (rEq2 K) (tVar 2) (tC (.int 6)))) (tRet (tOp rAdd3 (tOp rAdd3 (tSl rSlS (tVar 4) tNoPart (tPart (tVar 5))) (tVar 6)) (tSl rSlS (tVar 4) (tPart (tOp rAdd3 (tVar 5) (tC (.int 1)))) tNoPart))) tNext)
    (tRet (tVar 4)))))))))))))))
abbrev N_law_text_by : List Str := ["_law_script", "_law_rows", "_law_kind", "_law_one", "_law_text", "_law_place", "_law_sign"]
theorem lenr_law_text_by {vs : List V} {H : Hp} {Q : VK} (h : sp_law_text_by K c vs H Q E) : vs.length = 1 := len_any (fun ds ⟨ns, _, e⟩ => by rw [e]; rfl) h
theorem htr_law_text_by {vs : List V} {H : Hp} {Q : VK} (h : sp_law_text_by K c vs H Q E) : t_law_text_by K c E { nx := fun _ H' => Q .non H', rt := Q } (L2.start N_law_text_by vs) H := body_any h fun ds ⟨ns, hn, e⟩ => by
  subst e
  show HT K E _ [.da (scr ns), .no, .no, .no, .no, .no, .no] _
  have sl : (100000 : Nat) ≤ sizeLine := by decide
  obtain ⟨m, em, hm⟩ := rem_of (ce ns 0) (m := 8) (by decide)
  refine ht_seq (ht_asgAny (ea_cons (ev_var rfl) (ea_cons (evd_eq (ev_add ev_int (ev_mod (ev_ce (k := 0) (ev_var rfl) ev_int hn) ev_int (by decide))) (e := .int ((1 + m : Nat) : Int)) (congrArg PyData.int (by rw [em]; push_cast; rfl))) ea_nil)) ⟨ns, 1 + m, hn, by omega, by omega, rfl⟩ (fun d z => False.elim z) ?_)
  rintro es ⟨ys, rfl, y1, y8, hb⟩
  refine ht_frz (i := 1) (ds := ys.map .str) rfl ?_
  show HT K E _ [.da (scr ns), .da (.list (ys.map .str)), .no, .no, .no, .no, .no] _
  obtain ⟨k, ek, hk⟩ := rem_of (ce ns 2) (m := 10) (by decide)
  refine ht_seq (ht_asg (evd_eq (ev_mod (ev_ce (k := 2) (ev_var rfl) ev_int hn) ev_int (by decide)) (congrArg PyData.int ek)) ?_)
  obtain ⟨o, eo, ho⟩ := rem_of (ce ns 3) (m := ((ys.map PyData.str).length : Int)) (by rw [List.length_map]; omega)
  have ho : o < ys.length := by rw [List.length_map] at ho; omega
  refine ht_seq (ht_asg (evd_eq (ev_mod (ev_ce (k := 3) (ev_var rfl) ev_int hn) (ev_lenL (ev_var rfl)) (by rw [List.length_map]; omega)) (congrArg PyData.int eo)) ?_)
  show HT K E _ [.da (scr ns), .da (.list (ys.map .str)), .da (.int (k : Int)), .da (.int (o : Int)), .no, .no, .no] _
  refine ht_seq (ht_if (et_k (m := 0) (ev_var rfl)) (fun _ => ?_) (fun _ => ht_next ?_))
  · obtain ⟨q, eq, hq⟩ := rem_of (ce ns 3) (m := 12) (by decide)
    have pk : ∃ z : Str, [PyData.str "", .str "\n", .str "0: room 0 pays 0/1\n", .str "\n0: room 0 pays 0/1", .str "0: room 0 pays -0/1", .str "0: room 0 pays 07/1", .str "0: room 00 pays 7/1", .str "00: room 0 pays 7/1", .str "0: room 0 pays 7/01", .str "0: Room 0 pays 7/1", .str "0: room 0 pays +7/1", .str "0: room 0  pays 7/1"].getD q .none = .str z ∧ z.length ≤ 10000 := by
      have hq : q < 12 := by omega
      match q, hq with
      | 0, _ => exact ⟨_, rfl, by decide +kernel⟩
      | 1, _ => exact ⟨_, rfl, by decide +kernel⟩
      | 2, _ => exact ⟨_, rfl, by decide +kernel⟩
      | 3, _ => exact ⟨_, rfl, by decide +kernel⟩
      | 4, _ => exact ⟨_, rfl, by decide +kernel⟩
      | 5, _ => exact ⟨_, rfl, by decide +kernel⟩
      | 6, _ => exact ⟨_, rfl, by decide +kernel⟩
      | 7, _ => exact ⟨_, rfl, by decide +kernel⟩
      | 8, _ => exact ⟨_, rfl, by decide +kernel⟩
      | 9, _ => exact ⟨_, rfl, by decide +kernel⟩
      | 10, _ => exact ⟨_, rfl, by decide +kernel⟩
      | 11, _ => exact ⟨_, rfl, by decide +kernel⟩
    obtain ⟨z, ez, hz⟩ := pk
    refine ht_ret (evd_eq (ev_pick (k := q) (EvO.toD (eo_lst (ea_cons ev_str (ea_cons ev_str (ea_cons ev_str (ea_cons ev_str (ea_cons ev_str (ea_cons ev_str (ea_cons ev_str (ea_cons ev_str (ea_cons ev_str (ea_cons ev_str (ea_cons ev_str (ea_cons ev_str ea_nil)))))))))))) (by simp))) (evd_eq (ev_mod (ev_ce (k := 3) (ev_var rfl) ev_int hn) ev_int (by decide)) (by rw [eq])) (by simp; omega)) ez) ⟨z, rfl, hz⟩
  have at_ : ∀ {ws : List Str}, (∀ y ∈ ws, y.length ≤ 300) → o < ws.length → (ws.getD o (Str.ofString "")).length ≤ 300 := fun {ws} h hl => by
    rw [List.getD_eq_getElem?_getD, List.getElem?_eq_getElem hl]
    exact h _ (List.getElem_mem hl)
  have o1 : ∀ {Γ' : Env} {te : TE}, EvD K te Γ' (.int (o : Int)) → EvD K (tOp rAdd3 te (tC (.int 1))) Γ' (.int ((o + 1 : Nat) : Int)) := fun h => evd_eq (ev_add h ev_int) (congrArg PyData.int (by push_cast; rfl))
  refine ht_seq (ht_imp (P := fun q => ∃ zs : List Str, q = .nx [.da (scr ns), .da (.list (zs.map .str)), .da (.int (k : Int)), .da (.int (o : Int)), .no, .no, .no] ∧ zs.length = ys.length ∧ ∀ y ∈ zs, y.length ≤ 300)
    (ht_if (et_k (m := 1) (ev_var rfl)) (fun _ => ht_asg (EvO.toD (ev_cat (EvO.toD (ev_cat (EvO.toD (eo_take (p := o) (ev_var rfl) (ev_var rfl))) (EvO.toD (eo_drop (p := o + 1) (ev_var rfl) (o1 (ev_var rfl)))) (by simp; omega))) (EvO.toD (eo_lst (ea_cons (ev_word (ws := ys) (i := o) (ev_var rfl) (ev_var rfl) ho) ea_nil) (by simp))) (by simp; omega))) ⟨ys.take o ++ ys.drop (o + 1) ++ [ys.getD o (Str.ofString "")], by rw [List.map_append, List.map_append, List.map_take, List.map_drop]; rfl, by simp; omega, fun y hy => ?_⟩) (fun _ => ht_next ⟨ys, rfl, rfl, hb⟩)) ?_)
  · rcases List.mem_append.mp hy with z | z
    · rcases List.mem_append.mp z with z | z
      · exact hb y (List.mem_of_mem_take z)
      · exact hb y (List.mem_of_mem_drop z)
    · rw [List.mem_singleton.mp z]; exact at_ hb ho
  rintro _ ⟨zs, rfl, zl, hz⟩
  have hoz : o < zs.length := by omega
  refine ht_seq (ht_imp (P := fun q => ∃ zs : List Str, q = .nx [.da (scr ns), .da (.list (zs.map .str)), .da (.int (k : Int)), .da (.int (o : Int)), .no, .no, .no] ∧ zs.length ≤ 9 ∧ ∀ y ∈ zs, y.length ≤ 300)
    (ht_if (et_k (m := 2) (ev_var rfl)) (fun _ => ht_asg (EvO.toD (ev_cat (EvO.toD (ev_cat (EvO.toD (eo_take (p := o) (ev_var rfl) (ev_var rfl))) (EvO.toD (eo_lst (ea_cons (ev_word (ws := zs) (i := o) (ev_var rfl) (ev_var rfl) hoz) ea_nil) (by simp))) (by simp; omega))) (EvO.toD (eo_drop (p := o) (ev_var rfl) (ev_var rfl))) (by simp; omega))) ⟨zs.take o ++ [zs.getD o (Str.ofString "")] ++ zs.drop o, by rw [List.map_append, List.map_append, List.map_take, List.map_drop]; rfl, by simp; omega, fun y hy => ?_⟩) (fun _ => ht_next ⟨zs, rfl, by omega, hz⟩)) ?_)
  · rcases List.mem_append.mp hy with z | z
    · rcases List.mem_append.mp z with z | z
      · exact hz y (List.mem_of_mem_take z)
      · rw [List.mem_singleton.mp z]; exact at_ hz hoz
    · exact hz y (List.mem_of_mem_drop z)
  clear hz hoz zl
  rintro _ ⟨zs, rfl, zl, hz⟩
  refine ht_seq (ht_imp (P := fun q => ∃ zs : List Str, q = .nx [.da (scr ns), .da (.list (zs.map .str)), .da (.int (k : Int)), .da (.int (o : Int)), .no, .no, .no] ∧ zs.length ≤ 9 ∧ ∀ y ∈ zs, y.length ≤ 300)
    (ht_if (et_k (m := 3) (ev_var rfl)) (fun _ => ht_asg (EvO.toD (ev_cat (EvO.toD (eo_take (p := o) (ev_var rfl) (ev_var rfl))) (EvO.toD (eo_drop (p := o + 1) (ev_var rfl) (o1 (ev_var rfl)))) (by simp; omega))) ⟨zs.take o ++ zs.drop (o + 1), by rw [List.map_append, List.map_take, List.map_drop]; rfl, by simp; omega, fun y hy => ?_⟩) (fun _ => ht_next ⟨zs, rfl, by omega, hz⟩)) ?_)
  · rcases List.mem_append.mp hy with z | z
    · exact hz y (List.mem_of_mem_take z)
    · exact hz y (List.mem_of_mem_drop z)
  clear hz zl
  rintro _ ⟨zs, rfl, zl, hz⟩
  have l1 : (Str.ofString "\n").length = 1 := by decide +kernel
  have jl := join_le hz zl l1
  have sm := sum_len hz
  have jl : (Txt.join (Str.ofString "\n") zs).length ≤ 2709 := jl
  refine ht_seq (ht_asg (ev_join ev_str (ev_var rfl) (by rw [l1]; omega)) ?_)
  generalize Txt.join (Str.ofString "\n") zs = T at jl ⊢
  obtain ⟨p, ep, hp⟩ := rem_of (ce ns 4) (m := max 1 (T.length : Int)) (by omega)
  refine ht_seq (ht_asg (evd_eq (ev_mod (ev_ce (k := 4) (ev_var rfl) ev_int hn) (ev_max2 ev_int (ev_lenS (ev_var rfl) (by omega))) (by omega)) (congrArg PyData.int ep)) ?_)
  refine ht_seq (ht_asgAny (ea_cons (ev_ce (k := 5) (ev_var rfl) ev_int hn) ea_nil) ⟨_, rfl⟩ ?_ (fun es z => False.elim z))
  rintro d ⟨s, rfl, hs⟩
  show HT K E _ [.da (scr ns), .da (.list (zs.map .str)), .da (.int (k : Int)), .da (.int (o : Int)), .da (.str T), .da (.int (p : Int)), .da (.str s)] _
  have p1 : ∀ {Γ' : Env} {te : TE}, EvD K te Γ' (.int (p : Int)) → EvD K (tOp rAdd3 te (tC (.int 1))) Γ' (.int ((p + 1 : Nat) : Int)) := fun h => evd_eq (ev_add h ev_int) (congrArg PyData.int (by push_cast; rfl))
  have cl := cutS_le T
  have q1 := cl none (some (p : Int))
  have q2 := cl (some (p : Int)) none
  have q3 := cl (some ((p + 1 : Nat) : Int)) none
  refine ht_seq (ht_if (et_k (m := 4) (ev_var rfl)) (fun _ => ?_) (fun _ => ht_next ?_))
  · exact ht_ret (ev_addS (ev_addS (ev_cutS (ev_var rfl) ep_none (ep_some (ev_var rfl)) (by omega)) (ev_var rfl) (by omega)) (ev_cutS (ev_var rfl) (ep_some (ev_var rfl)) ep_none (by omega)) (by simp only [Str.length_append]; omega)) ⟨_, rfl, by simp only [Str.length_append]; omega⟩
  refine ht_seq (ht_if (et_k (m := 5) (ev_var rfl)) (fun _ => ?_) (fun _ => ht_next ?_))
  · exact ht_ret (ev_addS (ev_cutS (ev_var rfl) ep_none (ep_some (ev_var rfl)) (by omega)) (ev_cutS (ev_var rfl) (ep_some (p1 (ev_var rfl))) ep_none (by omega)) (by omega)) ⟨_, rfl, by simp only [Str.length_append]; omega⟩
  refine ht_seq (ht_if (et_k (m := 6) (ev_var rfl)) (fun _ => ?_) (fun _ => ht_next ?_))
  · exact ht_ret (ev_addS (ev_addS (ev_cutS (ev_var rfl) ep_none (ep_some (ev_var rfl)) (by omega)) (ev_var rfl) (by omega)) (ev_cutS (ev_var rfl) (ep_some (p1 (ev_var rfl))) ep_none (by omega)) (by simp only [Str.length_append]; omega)) ⟨_, rfl, by simp only [Str.length_append]; omega⟩
  exact ht_ret (ev_var rfl) ⟨T, rfl, by omega⟩
end
end PD

set_option Elab.async false
set_option linter.all false
set_option maxRecDepth 100000
set_option maxHeartbeats 1000000
set_option exponentiation.threshold 2000
namespace PD
open PySem L2 TL
section
variable {K : PySem.W.Frag} {c : CA} {E : XK} {Γ : Env} {P : Out → Prop} {ds : List PyData} {r : Res} {ta : TA}
theorem ea_two12 {t0 t1 : TE} {d e : PyData} (h0 : EvD K t0 Γ d) (h1 : EvD K t1 Γ e) : EvA K (tCons t0 (tCons t1 tNil)) Γ [d, e] := ea_cons h0 (ea_cons h1 ea_nil)
/-! ### _law_refused -/
abbrev TF12 (K : PySem.W.Frag) (c : CA) : Prop := TF K c.nd [(.ref c.sh, true), (.ref c.nd, true)] [(.ref c.nd, true), (.ref c.bt, false), (.ref c.br, false), (.ref c.be, false), (.ref c.nb, false), (.type "ValueError", true)]
def S_law_refused_k12 (c : CA) (ds : List PyData) (r : Res) : Prop := ∃ (w : PyData) (m : Int), (∀ x, w = .str x → x.length ≤ 10000) ∧ ds = [w, .int m] ∧ readR c w = .er c.nd ∧ r = .ok (.bool true)
abbrev t_law_refused_k12 (K : PySem.W.Frag) (c : CA) (E : XK) : TS :=
  (tSeq (tIfS (tTest (tOp (rEq2 K) (tVar 1) (tC (.int 0)))) (tSeq (tTryAs K (.ref c.sh) 2 (fun W => (tDrop (tCallS (spOf K (S_read c)) (WE W) (tCons (tVar 0) tNil)))) (fun a cls d => (tSeq (tIfS (tB (tCB (rIsET K cls d a) (tCons (tVar 2) (tCons (tTup (tCons (tC (.ref c.bt)) (tCons (tC (.ref c.br)) (tCons (tC (.ref c.be)) (tCons (tC (.ref c.nb)) tNil))))) tNil)))) (tRet (tC (.bl false))) tNext) (tRet (tCB (rIsE1 K cls d a) (tCons (tVar 2) (tCons (tC (.ref c.nd)) tNil)))))) (fun cls d _ H => E cls d H))
    (tRet (tC (.bl false)))) tNext)
    (tSeq (tIfS (tTest (tOp (rEq2 K) (tVar 1) (tC (.int 1)))) (tSeq (tTryAs K (.ref c.sh) 2 (fun W => (tDrop (tCallS (spOf K (S_read c)) (WE W) (tCons (tVar 0) tNil)))) (fun a cls d => (tRet (tCB (rIsE1 K cls d a) (tCons (tVar 2) (tCons (tC (.ty "ValueError")) tNil))))) (fun cls d _ H => E cls d H))
    (tRet (tC (.bl false)))) tNext)
    (tSeq (tTry K (.ref c.nd) (fun W => (tDrop (tCallS (spOf K (S_read c)) (WE W) (tCons (tVar 0) tNil)))) (fun a cls d => (tRet (tC (.bl true)))) (fun cls d _ H => E cls d H))
    (tRet (tC (.bl false))))))
abbrev N_law_refused_k12 : List Str := ["_law_text", "_law_kind", "error"]
theorem ht_law_refused_k12 (F : TF12 K c) (h : S_law_refused_k12 c ds r) : HT K E (t_law_refused_k12 K c E) (env0 N_law_refused_k12 ds) (Post r) := by
  obtain ⟨w, m, hw, rfl, hb, rfl⟩ := h
  show HT K E _ [.da w, .da (.int m), .no] _
  have sp : S_read c [w] (.er c.nd) := ⟨w, hw, rfl, hb.symm⟩
  refine ht_seq (ht_if (et_test (ev_eqI (ev_var rfl) ev_int)) (fun _ => ?_) (fun _ => ht_next ?_))
  · refine ht_seq (ht_tryAsX (ea_cons (ev_var rfl) ea_nil) sp (F.e (.ref c.sh, true) (by simp)) fun a => ?_)
    show HT K E _ [.da w, .da (.int m), .rf a] _
    refine ht_seq (ht_if (b := false) (et_B (ev_isET [c.bt, c.br, c.be, c.nb] rfl F.x (by simp) (any_no (F.k (.ref c.bt, false) (by simp)) (any_no (F.k (.ref c.br, false) (by simp)) (any_no (F.k (.ref c.be, false) (by simp)) (any_no (F.k (.ref c.nb, false) (by simp)) any_nil)))))) (fun z => nomatch z) fun _ => ht_next ?_)
    exact ht_ret (ev_isE1 (b := true) rfl F.x (.own c.nd) (F.k (.ref c.nd, true) (by simp))) rfl
  refine ht_seq (ht_if (et_test (ev_eqI (ev_var rfl) ev_int)) (fun _ => ?_) (fun _ => ht_next ?_))
  · refine ht_seq (ht_tryAsX (ea_cons (ev_var rfl) ea_nil) sp (F.e (.ref c.sh, true) (by simp)) fun a => ?_)
    show HT K E _ [.da w, .da (.int m), .rf a] _
    exact ht_ret (ev_isE1 (b := true) rfl F.x (.ty "ValueError") (F.k (.type "ValueError", true) (by simp))) rfl
  · refine ht_seq (ht_tryX (ea_cons (ev_var rfl) ea_nil) sp (F.e (.ref c.nd, true) (by simp)) fun a => ?_)
    exact ht_ret ev_bl rfl
/-! ### _law_whole_row -/
def S_law_whole_row (c : CA) (ds : List PyData) (r : Res) : Prop := ∃ (ns : List Int) (m : Nat), ns.length = m ∧ ds = [li ns, .int (m : Int)] ∧ r = .ok (.bool true)
abbrev t_law_whole_row (K : PySem.W.Frag) (c : CA) (E : XK) : TS :=
  (tSeq (tIfS (tOr (tNot (tB (tCB (rIsi K) (tCons (tVar 0) (tCons (tC (.ty "list")) tNil))))) (tTest (tOp (rNe2 K) (tCB (rLenV K) (tCons (tVar 0) tNil)) (tVar 1)))) (tRet (tC (.bl false))) tNext)
    (tSeq (tFor (iList K (tVar 0)) (gName 2) (tIfS (tOr (tNot (tB (tCB (rIsi K) (tCons (tVar 2) (tCons (tC (.ty "int")) tNil))))) (tB (tCB (rIsi K) (tCons (tVar 2) (tCons (tC (.ty "bool")) tNil))))) (tRet (tC (.bl false))) tNext))
    (tRet (tC (.bl true)))))
abbrev N_law_whole_row : List Str := ["_law_row", "_law_size", "_law_part"]
theorem ht_law_whole_row (h : S_law_whole_row c ds r) : HT K E (t_law_whole_row K c E) (env0 N_law_whole_row ds) (Post r) := by
  obtain ⟨ns, m, hm, rfl, rfl⟩ := h
  show HT K E _ [.da (li ns), .da (.int (m : Int)), .no] _
  refine ht_seq (ht_if (b := false) (evt_eq (et_or (et_not (et_B (ev_isi (ev_var rfl) (kit_list _)))) fun _ => et_test (ev_neI (ev_lenL (ds := ns.map .int) (ev_var rfl)) (ev_var rfl))) (by rw [List.length_map, hm]; simp [isList, li])) (fun z => nomatch z) fun _ => ht_next ?_)
  refine ht_seq (ht_forL (ws := [2]) ns PyData.int (fun Γ' y => Γ'.set 2 (.da (.int y))) (fun i Γ' => ∃ s, Γ' = [.da (li ns), .da (.int (m : Int)), s]) (ev_var rfl) ⟨_, rfl⟩ (fun Γ' y _ => tg_name) ?_ ?_)
  · rintro i x Γ' hx ⟨s, rfl⟩
    show HT K E _ [.da (li ns), .da (.int (m : Int)), .da (.int x)] _
    exact ht_if (b := false) (evt_eq (et_or (et_not (et_B (ev_isi (d := .int x) (ev_var rfl) (kit_int _)))) fun _ => et_B (ev_isi (d := .int x) (ev_var rfl) (kit_bool _))) rfl) (fun z => nomatch z) fun _ => ht_next ⟨_, rfl⟩
  · rintro Γ' ⟨s, rfl⟩
    exact ht_ret ev_bl rfl
/-! ### law -/
theorem shp_deal (rs : List (Int × Int)) : Shp 2 (dealD rs) := shp_tup fun x hx => by
  rcases List.mem_cons.mp hx with e | e
  · rw [e]; exact shp_li _
  · rcases List.mem_cons.mp e with e | e
    · rw [e]; exact shp_li _
    · cases e
def S_law_k12 (c : CA) (ds : List PyData) (r : Res) : Prop := ∃ ns : List Int, ds = [scr ns] ∧ ns.length ≤ 63 ∧ r = .ok (.bool true)
abbrev t_law_k12 (K : PySem.W.Frag) (c : CA) (E : XK) : TS :=
  (tSeq (tAsg (tOp rModI (tOp rDivI (tCall (spOf K (S_law_cell_at c)) [] E (tCons (tVar 0) (tCons (tC (.int 0)) tNil))) (tC (.int 8))) (tC (.int 3))) (gName 1))
    (tSeq (tIfS (tTest (tOp (rEq2 K) (tOp rModI (tOp rDivI (tCall (spOf K (S_law_cell_at c)) [] E (tCons (tVar 0) (tCons (tC (.int 0)) tNil))) (tC (.int 24))) (tC (.int 12))) (tC (.int 1)))) (tRet (tCall (spOf K (S_law_refused_k12 c)) [] E (tCons (tOp (rIx K) (tLst (tCons (tC .non) (tCons (tC (.int 5)) (tCons (tLst tNil) (tCons (tLst (tCons (tC (.str "0: room 0 pays 0/1")) tNil)) (tCons (tC (.bl true)) (tCons (tC (.int 0)) tNil))))))) (tOp rModI (tCall (spOf K (S_law_cell_at c)) [] E (tCons (tVar 0) (tCons (tC (.int 3)) tNil))) (tC (.int 6)))) (tCons (tVar 1) tNil)))) tNext)
    (tSeq (tAsg (tCall (sp_law_text_by K c) [] E (tCons (tVar 0) tNil)) (gName 2))
    (tSeq (tAsg (tCall (spOf K (S_law_deal c)) [] E (tCons (tVar 2) tNil)) (gName 3))
    (tSeq (tIfS (tTest (tOp rIsN (tVar 3) (tC .non))) (tRet (tCall (spOf K (S_law_refused_k12 c)) [] E (tCons (tVar 2) (tCons (tVar 1) tNil)))) tNext)
    (tSeq (tAsg (tCall (spOf K (S_read c)) [] E (tCons (tVar 2) tNil)) (gName 4))
    (tSeq (tIfS (tOr (tNot (tB (tCB (rIsi K) (tCons (tVar 4) (tCons (tC (.ty "tuple")) tNil))))) (tTest (tOp (rNe2 K) (tCB (rLenV K) (tCons (tVar 4) tNil)) (tC (.int 2))))) (tRet (tC (.bl false))) tNext)
    (tSeq (tAsg (tCB (rLenV K) (tCons (tOp (rIx K) (tVar 3) (tC (.int 0))) tNil)) (gName 5))
    (tRet (tAndV (tCall (spOf K (S_law_whole_row c)) [] E (tCons (tOp (rIx K) (tVar 4) (tC (.int 0))) (tCons (tVar 5) tNil))) (tAndV (tCall (spOf K (S_law_whole_row c)) [] E (tCons (tOp (rIx K) (tVar 4) (tC (.int 1))) (tCons (tVar 5) tNil))) (tOp (rEq2 K) (tVar 4) (tVar 3)))))))))))))
abbrev N_law_k12 : List Str := ["_law_script", "_law_by", "_law_text", "_law_due", "_law_found", "_law_size"]
theorem ht_law_k12 (h : S_law_k12 c ds r) : HT K E (t_law_k12 K c E) (env0 N_law_k12 ds) (Post r) := by
  obtain ⟨ns, rfl, hn, rfl⟩ := h
  show HT K E _ [.da (scr ns), .no, .no, .no, .no, .no] _
  refine ht_seq (ht_asg (ev_mod (ev_div (ev_ce (k := 0) (ev_var rfl) ev_int hn) ev_int ⟨by decide, by decide⟩) ev_int (by decide)) ?_)
  generalize ce ns 0 / 8 % 3 = b
  refine ht_seq (ht_if (et_test (ev_eqI (ev_mod (ev_div (ev_ce (k := 0) (ev_var rfl) ev_int hn) ev_int ⟨by decide, by decide⟩) ev_int (by decide)) ev_int)) (fun _ => ?_) (fun _ => ht_next ?_))
  · obtain ⟨q, eq, hq⟩ := rem_of (ce ns 3) (m := 6) (by decide)
    have pk : ∃ z : PyData, [PyData.none, .int 5, .list [], .list [.str "0: room 0 pays 0/1"], .bool true, .int 0].getD q .none = z ∧ (∀ x, z = .str x → x.length ≤ 10000) ∧ readR c z = .er c.nd := by
      have hq : q < 6 := by omega
      match q, hq with
      | 0, _ => exact ⟨_, rfl, fun x h => (nomatch h), rfl⟩
      | 1, _ => exact ⟨_, rfl, fun x h => (nomatch h), rfl⟩
      | 2, _ => exact ⟨_, rfl, fun x h => (nomatch h), rfl⟩
      | 3, _ => exact ⟨_, rfl, fun x h => (nomatch h), rfl⟩
      | 4, _ => exact ⟨_, rfl, fun x h => (nomatch h), rfl⟩
      | 5, _ => exact ⟨_, rfl, fun x h => (nomatch h), rfl⟩
    obtain ⟨z, ez, z1, z2⟩ := pk
    exact ht_ret (ev_call (ea_cons (evd_eq (ev_pick (k := q) (EvO.toD (eo_lst (ea_cons ev_non (ea_cons ev_int (ea_cons (EvO.toD (eo_lst ea_nil (by simp))) (ea_cons (EvO.toD (eo_lst (ea_cons ev_str ea_nil) (by simp))) (ea_cons ev_bl (ea_cons ev_int ea_nil)))))) (by simp))) (evd_eq (ev_mod (ev_ce (k := 3) (ev_var rfl) ev_int hn) ev_int (by decide)) (by rw [eq])) (by simp; omega)) ez) (ea_cons (ev_var rfl) ea_nil)) ⟨z, b, z1, rfl, z2, rfl⟩) rfl
  refine ht_seq (ht_asgAny (ea_cons (ev_var rfl) ea_nil) ⟨ns, hn, rfl⟩ ?_ (fun es z => False.elim z))
  rintro d ⟨x, rfl, hx⟩
  refine ht_seq (ht_asg (ev_call (ea_cons (ev_var rfl) ea_nil) ⟨x, hx, rfl, rfl⟩) ?_)
  have rd : readR c (.str x) = match dealOf x with
      | none => .er c.nd
      | some rs => .ok (dealD rs) := rfl
  cases hd : dealOf x with
  | none =>
    rw [hd] at rd
    show HT K E _ [.da (scr ns), .da (.int b), .da (.str x), .da .none, .no, .no] _
    refine ht_seq (ht_if (b := true) (evt_eq (et_test (ev_isN (ev_var rfl))) rfl) (fun _ => ?_) (fun z => nomatch z))
    exact ht_ret (ev_call (ea_two12 (ev_var rfl) (ev_var rfl)) ⟨.str x, b, fun y e => by cases e; exact hx, rfl, rd, rfl⟩) rfl
  | some rs =>
    rw [hd] at rd
    show HT K E _ [.da (scr ns), .da (.int b), .da (.str x), .da (dealD rs), .no, .no] _
    refine ht_seq (ht_if (b := false) (evt_eq (et_test (ev_isN (d := dealD rs) (ev_var rfl))) rfl) (fun z => nomatch z) fun _ => ht_next ?_)
    refine ht_seq (ht_asg (d := dealD rs) (ev_call (ea_cons (ev_var rfl) ea_nil) ⟨.str x, fun y e => by cases e; exact hx, rfl, rd.symm⟩) ?_)
    show HT K E _ [.da (scr ns), .da (.int b), .da (.str x), .da (dealD rs), .da (dealD rs), .no] _
    refine ht_seq (ht_if (b := false) (evt_eq (et_or (et_not (et_B (ev_isi (d := dealD rs) (ev_var rfl) (kit_tup _)))) fun _ => et_test (ev_neI (ev_lenT (ds := [li (rs.map (·.1)), li (partsIn rs rs.length rs.length)]) (ev_var rfl)) ev_int)) rfl) (fun z => nomatch z) fun _ => ht_next ?_)
    refine ht_seq (ht_asg (d := .int (rs.length : Int)) (evd_eq (ev_lenL (ds := (rs.map (·.1)).map .int) (ev_ixT (ds := [li (rs.map (·.1)), li (partsIn rs rs.length rs.length)]) (ev_var rfl) ev_int rfl)) (by rw [List.length_map, List.length_map])) ?_)
    show HT K E _ [.da (scr ns), .da (.int b), .da (.str x), .da (dealD rs), .da (dealD rs), .da (.int (rs.length : Int))] _
    exact ht_ret (ev_and (a := true) (b := true) (ev_call (ea_two12 (ev_ixT (ds := [li (rs.map (·.1)), li (partsIn rs rs.length rs.length)]) (ev_var rfl) ev_int rfl) (ev_var rfl)) ⟨rs.map (·.1), rs.length, by rw [List.length_map], rfl, rfl⟩)
      fun _ => ev_and (a := true) (b := true) (ev_call (ea_two12 (ev_ixT (ds := [li (rs.map (·.1)), li (partsIn rs rs.length rs.length)]) (ev_var rfl) ev_int rfl) (ev_var rfl)) ⟨partsIn rs rs.length rs.length, rs.length, partsIn_len _, rfl, rfl⟩)
      fun _ => ev_eqSelf (d := dealD rs) (ev_var rfl) (ev_var rfl) (shp_deal rs)) rfl
end
section
variable {Pg : Program} {w : World} {K : PySem.W.Frag} {mg : Str → Option Value} {base : Heap}
/-- a def keeps a contract of any kind -/
theorem fn_okR {x qual : Str} {st : Stmt} {f : Addr} {fd : FuncData} {N ps : List Str} {k : Nat} {sp : Sp} (F : Fun K x qual st f fd) (Sc : FnScope N ps (defScope st)) (len : ∀ vs H Q E, sp vs H Q E → vs.length = ps.length)
    (hbody : ∀ (cdv : Value) (A : Around) (outer : List PySem.Env) (s : Shared) (H : Hp) (E : XK), Room k (A.deeper (PyProof.Rows.envOfC qual (defScope st) s.heap.objs.size f cdv)) →
      ∃ t, PSs (cxOf (L2.CX Pg w) Pg w K mg base N qual (defScope st) f cdv A outer s H E) (defBody st) t ∧ ∀ (vs : List V) (Q : VK), sp vs H Q E → t { nx := fun _ H' => Q .non H', rt := Q } (L2.start N vs) H) : FnOk Pg w K mg base (L2.CX Pg w) (k + 1) f fd ps sp := by
  refine F.okX Sc (fun vs H Q E h => len vs H Q E h) (fun cdv A outer s H vs Q E hr h => ?_)
  obtain ⟨t, h1, h2⟩ := hbody cdv A outer s H E hr
  exact ⟨t, h1, h2 vs Q h⟩
end
end PD

set_option Elab.async false
set_option linter.all false
set_option maxRecDepth 100000
set_option maxHeartbeats 4000000
namespace D
open PySem L2 PD
def topS (i : Nat) : Stmt := PySem.Challenge.pw_roomshare_k12_read.main.body.getD i (.Pass ⟨0, 0, 0, 0⟩)
abbrev s_law_rooms_by : Stmt := topS 18
theorem sc_law_rooms_by : FnScope N_law_rooms_by ["_law_cell", "_law_many"] (defScope s_law_rooms_by) := ⟨rfl, rfl, rfl, by decide +kernel, rfl, by decide +kernel, by decide +kernel⟩
abbrev s_law_cell_at : Stmt := topS 17
theorem sc_law_cell_at : FnScope N_law_cell_at ["_law_script", "_law_k"] (defScope s_law_cell_at) := ⟨rfl, rfl, rfl, by decide +kernel, rfl, by decide +kernel, by decide +kernel⟩
abbrev s_law_part_by_k12 : Stmt := topS 19
theorem sc_law_part_by_k12 : FnScope N_law_part_by_k12 ["_law_cell"] (defScope s_law_part_by_k12) := ⟨rfl, rfl, rfl, by decide +kernel, rfl, by decide +kernel, by decide +kernel⟩
abbrev s_law_rows_by : Stmt := topS 21
theorem sc_law_rows_by : FnScope N_law_rows_by ["_law_script", "_law_many"] (defScope s_law_rows_by) := ⟨rfl, rfl, rfl, by decide +kernel, rfl, by decide +kernel, by decide +kernel⟩
abbrev s_law_sign_by : Stmt := topS 20
theorem sc_law_sign_by : FnScope N_law_sign_by ["_law_cell"] (defScope s_law_sign_by) := ⟨rfl, rfl, rfl, by decide +kernel, rfl, by decide +kernel, by decide +kernel⟩
abbrev s_law_text_by : Stmt := topS 22
theorem sc_law_text_by : FnScope N_law_text_by ["_law_script"] (defScope s_law_text_by) := ⟨rfl, rfl, rfl, by decide +kernel, rfl, by decide +kernel, by decide +kernel⟩
abbrev s_law_number : Stmt := topS 23
theorem sc_law_number : FnScope N_law_number ["_law_word"] (defScope s_law_number) := ⟨rfl, rfl, rfl, by decide +kernel, rfl, by decide +kernel, by decide +kernel⟩
abbrev s_law_deal : Stmt := topS 24
theorem sc_law_deal : FnScope N_law_deal ["_law_text"] (defScope s_law_deal) := ⟨rfl, rfl, rfl, by decide +kernel, rfl, by decide +kernel, by decide +kernel⟩
abbrev s_is_whole : Stmt := topS 9
theorem sc_is_whole : FnScope N_is_whole ["thing"] (defScope s_is_whole) := ⟨rfl, rfl, rfl, by decide +kernel, rfl, by decide +kernel, by decide +kernel⟩
abbrev s_are_places : Stmt := topS 10
theorem sc_are_places : FnScope N_are_places ["things", "many"] (defScope s_are_places) := ⟨rfl, rfl, rfl, by decide +kernel, rfl, by decide +kernel, by decide +kernel⟩
abbrev s_number_in : Stmt := topS 13
theorem sc_number_in : FnScope N_number_in ["word", "is_below"] (defScope s_number_in) := ⟨rfl, rfl, rfl, by decide +kernel, rfl, by decide +kernel, by decide +kernel⟩
abbrev s_read_row : Stmt := topS 14
theorem sc_read_row : FnScope N_read_row ["row", "lodger", "many"] (defScope s_read_row) := ⟨rfl, rfl, rfl, by decide +kernel, rfl, by decide +kernel, by decide +kernel⟩
abbrev s_read : Stmt := topS 15
theorem sc_read : FnScope N_read ["text"] (defScope s_read) := ⟨rfl, rfl, rfl, by decide +kernel, rfl, by decide +kernel, by decide +kernel⟩
abbrev s_law_refused_k12 : Stmt := topS 25
theorem sc_law_refused_k12 : FnScope N_law_refused_k12 ["_law_text", "_law_kind"] (defScope s_law_refused_k12) := ⟨rfl, rfl, rfl, by decide +kernel, rfl, by decide +kernel, by decide +kernel⟩
abbrev s_law_whole_row : Stmt := topS 26
theorem sc_law_whole_row : FnScope N_law_whole_row ["_law_row", "_law_size"] (defScope s_law_whole_row) := ⟨rfl, rfl, rfl, by decide +kernel, rfl, by decide +kernel, by decide +kernel⟩
abbrev s_law_k12 : Stmt := topS 27
theorem sc_law_k12 : FnScope N_law_k12 ["_law_script"] (defScope s_law_k12) := ⟨rfl, rfl, rfl, by decide +kernel, rfl, by decide +kernel, by decide +kernel⟩
theorem len_law_rooms_by {c : CA} {ds : List PyData} {r : Res} (h : S_law_rooms_by c ds r) : ds.length = 2 := by
  simp only [S_law_rooms_by, S_ahead] at h; grind (ematch := 30) (gen := 30)
theorem len_law_cell_at {c : CA} {ds : List PyData} {r : Res} (h : S_law_cell_at c ds r) : ds.length = 2 := by
  simp only [S_law_cell_at, S_ahead] at h; grind (ematch := 30) (gen := 30)
theorem len_law_part_by_k12 {c : CA} {ds : List PyData} {r : Res} (h : S_law_part_by_k12 c ds r) : ds.length = 1 := by
  simp only [S_law_part_by_k12, S_ahead] at h; grind (ematch := 30) (gen := 30)
theorem len_law_number {c : CA} {ds : List PyData} {r : Res} (h : S_law_number c ds r) : ds.length = 1 := by
  simp only [S_law_number, S_ahead] at h; grind (ematch := 30) (gen := 30)
theorem len_law_deal {c : CA} {ds : List PyData} {r : Res} (h : S_law_deal c ds r) : ds.length = 1 := by
  simp only [S_law_deal, S_ahead] at h; grind (ematch := 30) (gen := 30)
theorem len_is_whole {c : CA} {ds : List PyData} {r : Res} (h : S_is_whole c ds r) : ds.length = 1 := by
  simp only [S_is_whole, S_ahead] at h; grind (ematch := 30) (gen := 30)
theorem len_are_places {c : CA} {ds : List PyData} {r : Res} (h : S_are_places c ds r) : ds.length = 2 := by
  simp only [S_are_places, S_ahead] at h; grind (ematch := 30) (gen := 30)
theorem len_number_in {c : CA} {ds : List PyData} {r : Res} (h : S_number_in c ds r) : ds.length = 2 := by
  simp only [S_number_in, S_ahead] at h; grind (ematch := 30) (gen := 30)
theorem len_read_row {c : CA} {ds : List PyData} {r : Res} (h : S_read_row c ds r) : ds.length = 3 := by
  simp only [S_read_row, S_ahead] at h; grind (ematch := 30) (gen := 30)
theorem len_read {c : CA} {ds : List PyData} {r : Res} (h : S_read c ds r) : ds.length = 1 := by
  simp only [S_read, S_ahead] at h; grind (ematch := 30) (gen := 30)
theorem len_law_refused_k12 {c : CA} {ds : List PyData} {r : Res} (h : S_law_refused_k12 c ds r) : ds.length = 2 := by
  simp only [S_law_refused_k12, S_ahead] at h; grind (ematch := 30) (gen := 30)
theorem len_law_whole_row {c : CA} {ds : List PyData} {r : Res} (h : S_law_whole_row c ds r) : ds.length = 2 := by
  simp only [S_law_whole_row, S_ahead] at h; grind (ematch := 30) (gen := 30)
theorem len_law_k12 {c : CA} {ds : List PyData} {r : Res} (h : S_law_k12 c ds r) : ds.length = 1 := by
  simp only [S_law_k12, S_ahead] at h; grind (ematch := 30) (gen := 30)
structure Facts (K : PySem.W.Frag) (mg : Str → Option Value) : Type where
  c : CA
  b_ValueError : mg "ValueError" = none
  b_all : mg "all" = none
  b_bool : mg "bool" = none
  b_int : mg "int" = none
  b_isinstance : mg "isinstance" = none
  b_len : mg "len" = none
  b_list : mg "list" = none
  b_max : mg "max" = none
  b_range : mg "range" = none
  b_str : mg "str" = none
  b_tuple : mg "tuple" = none
  k_MOST_FIGURES : ∃ t, mg "MOST_FIGURES" = some (.int 30 t)
  k_MOST_LODGERS : ∃ t, mg "MOST_LODGERS" = some (.int 8 t)
  x_BadRent : ExF K mg "BadRent" c.be
  x_BadRooms : ExF K mg "BadRooms" c.br
  x_BadTable : ExF K mg "BadTable" c.bt
  x_NoDeal : ExF K mg "NoDeal" c.nd
  x_NotBest : ExF K mg "NotBest" c.nb
  x_ShareError : ExF K mg "ShareError" c.sh
  tf_law_refused_k12 : TF12 K c
  law_rooms_by : Def1 K mg "_law_rooms_by" s_law_rooms_by ["_law_cell", "_law_many"]
  law_cell_at : Def1 K mg "_law_cell_at" s_law_cell_at ["_law_script", "_law_k"]
  law_part_by_k12 : Def1 K mg "_law_part_by" s_law_part_by_k12 ["_law_cell"]
  law_rows_by : Def1 K mg "_law_rows_by" s_law_rows_by ["_law_script", "_law_many"]
  law_sign_by : Def1 K mg "_law_sign_by" s_law_sign_by ["_law_cell"]
  law_text_by : Def1 K mg "_law_text_by" s_law_text_by ["_law_script"]
  law_number : Def1 K mg "_law_number" s_law_number ["_law_word"]
  law_deal : Def1 K mg "_law_deal" s_law_deal ["_law_text"]
  is_whole : Def1 K mg "is_whole" s_is_whole ["thing"]
  are_places : Def1 K mg "are_places" s_are_places ["things", "many"]
  number_in : Def1 K mg "number_in" s_number_in ["word", "is_below"]
  read_row : Def1 K mg "read_row" s_read_row ["row", "lodger", "many"]
  read : Def1 K mg "read" s_read ["text"]
  law_refused_k12 : Def1 K mg "_law_refused" s_law_refused_k12 ["_law_text", "_law_kind"]
  law_whole_row : Def1 K mg "_law_whole_row" s_law_whole_row ["_law_row", "_law_size"]
  law_k12 : Def1 K mg "law" s_law_k12 ["_law_script"]
section
variable {Pg : Program} {w : World} {K : PySem.W.Frag} {mg : Str → Option Value} {base : Heap}
theorem ok_law_rooms_by (T : Facts K mg) : FnOk Pg w K mg base (L2.CX Pg w) 1 T.law_rooms_by.f T.law_rooms_by.fd ["_law_cell", "_law_many"] (spOf K (S_law_rooms_by T.c)) := by
  refine fn_ok T.law_rooms_by.F sc_law_rooms_by (fun ds r h => len_law_rooms_by h) (fun cdv A outer s H E hr => ⟨_, ?_, fun ds r h => ht_law_rooms_by h⟩)
  exact (pss_cons (ps_set (i := 2) sc_law_rooms_by.nd rfl (by first | exact Or.inl rfl | exact Or.inr rfl) (pe_listRg rfl (by rfl) T.b_list (prg_1 (by rfl) T.b_range (pv 1))))
    (pss_cons (ps_set (i := 3) sc_law_rooms_by.nd rfl (by first | exact Or.inl rfl | exact Or.inr rfl) (pe_lst pa_nil))
    (pss_cons (ps_while (passes_of rfl) (pt_cmpR o_gt (pe_callB c_len (by rfl) T.b_len bt_len (pa_cons (pv 2) pa_nil)) pe_int (nomark _)) (pss_cons (ps_expr (pe_bm PySem.F.plainAttrs_list PySem.F.slot_list_append PySem.F.type_list_append mt_append (pv 3) (pa_cons (pe_bm PySem.F.plainAttrs_list PySem.F.slot_list_pop PySem.F.type_list_pop mt_popAt (pv 2) (pa_cons (pe_op o_mod (pv 0) (pe_callB c_len (by rfl) T.b_len bt_len (pa_cons (pv 2) pa_nil))) pa_nil)) pa_nil)))
    (pss_one (ps_set (i := 0) sc_law_rooms_by.nd rfl (by first | exact Or.inl rfl | exact Or.inr rfl) (pe_op o_div (pv 0) (pe_op o_add (pe_callB c_len (by rfl) T.b_len bt_len (pa_cons (pv 2) pa_nil)) pe_int))))))
    (pss_one (ps_ret (pv 3))))))
theorem ok_law_cell_at (T : Facts K mg) : FnOk Pg w K mg base (L2.CX Pg w) 1 T.law_cell_at.f T.law_cell_at.fd ["_law_script", "_law_k"] (spOf K (S_law_cell_at T.c)) := by
  refine fn_ok T.law_cell_at.F sc_law_cell_at (fun ds r h => len_law_cell_at h) (fun cdv A outer s H E hr => ⟨_, ?_, fun ds r h => ht_law_cell_at h⟩)
  exact (pss_cons (ps_if (pt_cmpR o_lt (pv 1) (pe_callB c_len (by rfl) T.b_len bt_len (pa_cons (pv 0) pa_nil)) (nomark _)) (pss_one (ps_ret (pe_ix ix_seq (pv 0) (pv 1) (fun _ _ => rfl)))) pss_nil)
    (pss_one (ps_ret pe_int)))
theorem ok_law_part_by_k12 (T : Facts K mg) : FnOk Pg w K mg base (L2.CX Pg w) 1 T.law_part_by_k12.f T.law_part_by_k12.fd ["_law_cell"] (spOf K (S_law_part_by_k12 T.c)) := by
  refine fn_ok T.law_part_by_k12.F sc_law_part_by_k12 (fun ds r h => len_law_part_by_k12 h) (fun cdv A outer s H E hr => ⟨_, ?_, fun ds r h => ht_law_part_by_k12 h⟩)
  exact (pss_cons (ps_set (i := 1) sc_law_part_by_k12.nd rfl (by first | exact Or.inl rfl | exact Or.inr rfl) (pe_op o_mod (pv 0) pe_int))
    (pss_cons (ps_if (pt_cmpR (o_eq hr.units) (pv 1) pe_int (nomark _)) (pss_one (ps_ret (pe_op o_sub (pe_op o_mod (pe_op o_div (pv 0) pe_int) pe_int) pe_int))) pss_nil)
    (pss_cons (ps_if (pt_cmpR (o_eq hr.units) (pv 1) pe_int (nomark _)) (pss_one (ps_ret (pe_op o_add (pe_op o_sub (pe_op o_mod (pe_op o_div (pv 0) pe_int) (pe_op o_sub (pe_op o_mul pe_int (pe_op o_pow pe_int pe_int)) pe_int)) (pe_op o_pow pe_int pe_int)) pe_int))) pss_nil)
    (pss_cons (ps_if (pt_cmpR (o_eq hr.units) (pv 1) pe_int (nomark _)) (pss_one (ps_ret (pe_ix ix_seq (pe_lst (pa_cons pe_int (pa_cons (pe_op o_sub (pe_op o_pow pe_int pe_int) pe_int) (pa_cons (pe_op o_sub pe_int (pe_op o_pow pe_int pe_int)) (pa_cons (pe_op o_pow pe_int pe_int) (pa_cons (pe_un un_neg pe_int) (pa_cons pe_int (pa_cons pe_int (pa_cons (pe_un un_neg (pe_op o_pow pe_int pe_int)) pa_nil))))))))) (pe_op o_mod (pe_op o_div (pv 0) pe_int) pe_int) (fun _ _ => rfl)))) pss_nil)
    (pss_one (ps_ret (pe_op o_sub (pe_op o_mod (pe_op o_div (pv 0) pe_int) pe_int) pe_int)))))))
theorem ok_law_rows_by (T : Facts K mg) : FnOk Pg w K mg base (L2.CX Pg w) 2 T.law_rows_by.f T.law_rows_by.fd ["_law_script", "_law_many"] (sp_law_rows_by K T.c) := by
  refine fn_okR T.law_rows_by.F sc_law_rows_by (fun vs H Q E h => lenr_law_rows_by h) (fun cdv A outer s H E hr => ⟨_, ?_, fun vs Q h => htr_law_rows_by h⟩)
  exact (pss_cons (ps_set (i := 2) sc_law_rows_by.nd rfl (by first | exact Or.inl rfl | exact Or.inr rfl) (pe_call (ok_law_rooms_by T) (hr.mono (by decide)) (by rfl) T.law_rooms_by.m T.law_rooms_by.F.kp T.law_rooms_by.b .nil (pass_call rfl rfl rfl rfl) (pa_cons (pe_call (ok_law_cell_at T) (hr.mono (by decide)) (by rfl) T.law_cell_at.m T.law_cell_at.F.kp T.law_cell_at.b .nil (pass_call rfl rfl rfl rfl) (pa_cons (pv 0) (pa_cons pe_int pa_nil))) (pa_cons (pv 1) pa_nil))))
    (pss_cons (ps_set (i := 3) sc_law_rows_by.nd rfl (by first | exact Or.inl rfl | exact Or.inr rfl) (pe_lst pa_nil))
    (pss_cons (ps_for (passes_of rfl) rfl (pi_range1 (by rfl) T.b_range (pa_cons (pv 1) pa_nil)) (pg_name (i := 4) sc_law_rows_by.nd rfl (by first | exact Or.inl rfl | exact Or.inr rfl)) (pss_cons (ps_set (i := 5) sc_law_rows_by.nd rfl (by first | exact Or.inl rfl | exact Or.inr rfl) (pe_call (ok_law_part_by_k12 T) (hr.mono (by decide)) (by rfl) T.law_part_by_k12.m T.law_part_by_k12.F.kp T.law_part_by_k12.b .nil (pass_call rfl rfl rfl rfl) (pa_cons (pe_call (ok_law_cell_at T) (hr.mono (by decide)) (by rfl) T.law_cell_at.m T.law_cell_at.F.kp T.law_cell_at.b .nil (pass_call rfl rfl rfl rfl) (pa_cons (pv 0) (pa_cons (pe_op o_add pe_int (pv 4)) pa_nil))) pa_nil)))
    (pss_cons (ps_set (i := 6) sc_law_rows_by.nd rfl (by first | exact Or.inl rfl | exact Or.inr rfl) (pe_op o_add (pe_op o_add (pe_callTy c_str (by rfl) T.b_str bt_str (pa_cons (pv 4) pa_nil)) pe_str) (pe_callTy c_str (by rfl) T.b_str bt_str (pa_cons (pe_ix ix_seq (pv 2) (pv 4) (fun _ _ => rfl)) pa_nil))))
    (pss_one (ps_expr (pe_bm PySem.F.plainAttrs_list PySem.F.slot_list_append PySem.F.type_list_append mt_append (pv 3) (pa_cons (pe_op o_add (pe_op o_add (pe_op o_add (pe_op o_add (pv 6) pe_str) (pe_callTy c_str (by rfl) T.b_str bt_str (pa_cons (pv 5) pa_nil))) pe_str) (pe_callTy c_str (by rfl) T.b_str bt_str (pa_cons (pv 1) pa_nil))) pa_nil)))))))
    (pss_cons (ps_if (pt_cmpR (o_eq hr.units) (pe_op o_mod (pe_op o_div (pe_call (ok_law_cell_at T) (hr.mono (by decide)) (by rfl) T.law_cell_at.m T.law_cell_at.F.kp T.law_cell_at.b .nil (pass_call rfl rfl rfl rfl) (pa_cons (pv 0) (pa_cons pe_int pa_nil))) pe_int) pe_int) pe_int (nomark _)) (pss_cons (ps_set (i := 6) sc_law_rows_by.nd rfl (by first | exact Or.inl rfl | exact Or.inr rfl) (pe_op o_add pe_str (pe_callTy c_str (by rfl) T.b_str bt_str (pa_cons (pe_ix ix_seq (pv 2) pe_int (fun _ _ => rfl)) pa_nil))))
    (pss_one (ps_asg (pe_op o_add (pe_op o_add (pv 6) (pe_ix ix_seq (pe_lst (pa_cons pe_str (pa_cons pe_str (pa_cons pe_str (pa_cons pe_str pa_nil))))) (pe_op o_mod (pe_call (ok_law_cell_at T) (hr.mono (by decide)) (by rfl) T.law_cell_at.m T.law_cell_at.F.kp T.law_cell_at.b .nil (pass_call rfl rfl rfl rfl) (pa_cons (pv 0) (pa_cons pe_int pa_nil))) pe_int) (fun _ _ => rfl))) (pe_callTy c_str (by rfl) T.b_str bt_str (pa_cons (pv 1) pa_nil))) (pg_sub (pv 3) pe_int set_list)))) pss_nil)
    (pss_one (ps_ret (pv 3)))))))
theorem ok_law_sign_by (T : Facts K mg) : FnOk Pg w K mg base (L2.CX Pg w) 1 T.law_sign_by.f T.law_sign_by.fd ["_law_cell"] (sp_law_sign_by K T.c) := by
  refine fn_okR T.law_sign_by.F sc_law_sign_by (fun vs H Q E h => lenr_law_sign_by h) (fun cdv A outer s H E hr => ⟨_, ?_, fun vs Q h => htr_law_sign_by h⟩)
  exact (pss_cons (ps_set (i := 1) sc_law_sign_by.nd rfl (by first | exact Or.inl rfl | exact Or.inr rfl) pe_str)
    (pss_cons (ps_set (i := 1) sc_law_sign_by.nd rfl (by first | exact Or.inl rfl | exact Or.inr rfl) (pe_op o_add (pv 1) pe_str))
    (pss_one (ps_ret (pe_ix ix_seq (pv 1) (pe_op o_mod (pv 0) pe_int) (fun _ _ => rfl))))))
theorem ok_law_text_by (T : Facts K mg) : FnOk Pg w K mg base (L2.CX Pg w) 3 T.law_text_by.f T.law_text_by.fd ["_law_script"] (sp_law_text_by K T.c) := by
  refine fn_okR T.law_text_by.F sc_law_text_by (fun vs H Q E h => lenr_law_text_by h) (fun cdv A outer s H E hr => ⟨_, ?_, fun vs Q h => htr_law_text_by h⟩)
  exact (pss_cons (ps_set (i := 1) sc_law_text_by.nd rfl (by first | exact Or.inl rfl | exact Or.inr rfl) (pe_call (ok_law_rows_by T) (hr.mono (by decide)) (by rfl) T.law_rows_by.m T.law_rows_by.F.kp T.law_rows_by.b .nil (pass_call rfl rfl rfl rfl) (pa_cons (pv 0) (pa_cons (pe_op o_add pe_int (pe_op o_mod (pe_call (ok_law_cell_at T) (hr.mono (by decide)) (by rfl) T.law_cell_at.m T.law_cell_at.F.kp T.law_cell_at.b .nil (pass_call rfl rfl rfl rfl) (pa_cons (pv 0) (pa_cons pe_int pa_nil))) pe_int)) pa_nil))))
    (pss_cons (ps_set (i := 2) sc_law_text_by.nd rfl (by first | exact Or.inl rfl | exact Or.inr rfl) (pe_op o_mod (pe_call (ok_law_cell_at T) (hr.mono (by decide)) (by rfl) T.law_cell_at.m T.law_cell_at.F.kp T.law_cell_at.b .nil (pass_call rfl rfl rfl rfl) (pa_cons (pv 0) (pa_cons pe_int pa_nil))) pe_int))
    (pss_cons (ps_set (i := 3) sc_law_text_by.nd rfl (by first | exact Or.inl rfl | exact Or.inr rfl) (pe_op o_mod (pe_call (ok_law_cell_at T) (hr.mono (by decide)) (by rfl) T.law_cell_at.m T.law_cell_at.F.kp T.law_cell_at.b .nil (pass_call rfl rfl rfl rfl) (pa_cons (pv 0) (pa_cons pe_int pa_nil))) (pe_callB c_len (by rfl) T.b_len bt_len (pa_cons (pv 1) pa_nil))))
    (pss_cons (ps_if (pt_cmpR (o_eq hr.units) (pv 2) pe_int (nomark _)) (pss_one (ps_ret (pe_ix ix_seq (pe_lst (pa_cons pe_str (pa_cons pe_str (pa_cons pe_str (pa_cons pe_str (pa_cons pe_str (pa_cons pe_str (pa_cons pe_str (pa_cons pe_str (pa_cons pe_str (pa_cons pe_str (pa_cons pe_str (pa_cons pe_str pa_nil))))))))))))) (pe_op o_mod (pe_call (ok_law_cell_at T) (hr.mono (by decide)) (by rfl) T.law_cell_at.m T.law_cell_at.F.kp T.law_cell_at.b .nil (pass_call rfl rfl rfl rfl) (pa_cons (pv 0) (pa_cons pe_int pa_nil))) pe_int) (fun _ _ => rfl)))) pss_nil)
    (pss_cons (ps_if (pt_cmpR (o_eq hr.units) (pv 2) pe_int (nomark _)) (pss_one (ps_set (i := 1) sc_law_text_by.nd rfl (by first | exact Or.inl rfl | exact Or.inr rfl) (pe_op o_add (pe_op o_add (pe_slice sl_list (pv 1) po_none (po_some (pv 3))) (pe_slice sl_list (pv 1) (po_some (pe_op o_add (pv 3) pe_int)) po_none)) (pe_lst (pa_cons (pe_ix ix_seq (pv 1) (pv 3) (fun _ _ => rfl)) pa_nil))))) pss_nil)
    (pss_cons (ps_if (pt_cmpR (o_eq hr.units) (pv 2) pe_int (nomark _)) (pss_one (ps_set (i := 1) sc_law_text_by.nd rfl (by first | exact Or.inl rfl | exact Or.inr rfl) (pe_op o_add (pe_op o_add (pe_slice sl_list (pv 1) po_none (po_some (pv 3))) (pe_lst (pa_cons (pe_ix ix_seq (pv 1) (pv 3) (fun _ _ => rfl)) pa_nil))) (pe_slice sl_list (pv 1) (po_some (pv 3)) po_none)))) pss_nil)
    (pss_cons (ps_if (pt_cmpR (o_eq hr.units) (pv 2) pe_int (nomark _)) (pss_one (ps_set (i := 1) sc_law_text_by.nd rfl (by first | exact Or.inl rfl | exact Or.inr rfl) (pe_op o_add (pe_slice sl_list (pv 1) po_none (po_some (pv 3))) (pe_slice sl_list (pv 1) (po_some (pe_op o_add (pv 3) pe_int)) po_none)))) pss_nil)
    (pss_cons (ps_set (i := 4) sc_law_text_by.nd rfl (by first | exact Or.inl rfl | exact Or.inr rfl) (pe_bm PySem.F.plainAttrs_str PySem.F.slot_str_join PySem.F.type_str_join m_join pe_str (pa_cons (pv 1) pa_nil)))
    (pss_cons (ps_set (i := 5) sc_law_text_by.nd rfl (by first | exact Or.inl rfl | exact Or.inr rfl) (pe_op o_mod (pe_call (ok_law_cell_at T) (hr.mono (by decide)) (by rfl) T.law_cell_at.m T.law_cell_at.F.kp T.law_cell_at.b .nil (pass_call rfl rfl rfl rfl) (pa_cons (pv 0) (pa_cons pe_int pa_nil))) (pe_callB (c_max2 rfl) (by rfl) T.b_max bt_max (pa_cons pe_int (pa_cons (pe_callB c_len (by rfl) T.b_len bt_len (pa_cons (pv 4) pa_nil)) pa_nil)))))
    (pss_cons (ps_set (i := 6) sc_law_text_by.nd rfl (by first | exact Or.inl rfl | exact Or.inr rfl) (pe_call (ok_law_sign_by T) (hr.mono (by decide)) (by rfl) T.law_sign_by.m T.law_sign_by.F.kp T.law_sign_by.b .nil (pass_call rfl rfl rfl rfl) (pa_cons (pe_call (ok_law_cell_at T) (hr.mono (by decide)) (by rfl) T.law_cell_at.m T.law_cell_at.F.kp T.law_cell_at.b .nil (pass_call rfl rfl rfl rfl) (pa_cons (pv 0) (pa_cons pe_int pa_nil))) pa_nil)))
    (pss_cons (ps_if (pt_cmpR (o_eq hr.units) (pv 2) pe_int (nomark _)) (pss_one (ps_ret (pe_op o_add (pe_op o_add (pe_slice sl_str (pv 4) po_none (po_some (pv 5))) (pv 6)) (pe_slice sl_str (pv 4) (po_some (pv 5)) po_none)))) pss_nil)
    (pss_cons (ps_if (pt_cmpR (o_eq hr.units) (pv 2) pe_int (nomark _)) (pss_one (ps_ret (pe_op o_add (pe_slice sl_str (pv 4) po_none (po_some (pv 5))) (pe_slice sl_str (pv 4) (po_some (pe_op o_add (pv 5) pe_int)) po_none)))) pss_nil)
    (pss_cons (ps_if (pt_cmpR (o_eq hr.units) (pv 2) pe_int (nomark _)) (pss_one (ps_ret (pe_op o_add (pe_op o_add (pe_slice sl_str (pv 4) po_none (po_some (pv 5))) (pv 6)) (pe_slice sl_str (pv 4) (po_some (pe_op o_add (pv 5) pe_int)) po_none)))) pss_nil)
    (pss_one (ps_ret (pv 4))))))))))))))))
theorem ok_law_number (T : Facts K mg) : FnOk Pg w K mg base (L2.CX Pg w) 1 T.law_number.f T.law_number.fd ["_law_word"] (spOf K (S_law_number T.c)) := by
  refine fn_ok T.law_number.F sc_law_number (fun ds r h => len_law_number h) (fun cdv A outer s H E hr => ⟨_, ?_, fun ds r h => ht_law_number h⟩)
  exact (pss_cons (ps_set (i := 1) sc_law_number.nd rfl (by first | exact Or.inl rfl | exact Or.inr rfl) (pv 0))
    (pss_cons (ps_if (pt_cmpR (o_eq hr.units) (pe_slice sl_str (pv 0) po_none (po_some pe_int)) pe_str (nomark _)) (pss_one (ps_set (i := 1) sc_law_number.nd rfl (by first | exact Or.inl rfl | exact Or.inr rfl) (pe_slice sl_str (pv 0) (po_some pe_int) po_none))) pss_nil)
    (pss_cons (ps_if (pt_not (pt_chain o_le o_le pe_int (pe_callB c_len (by rfl) T.b_len bt_len (pa_cons (pv 1) pa_nil)) pe_int)) (pss_one (ps_ret pe_non)) pss_nil)
    (pss_cons (ps_for (passes_of rfl) rfl (pi_str (pv 1)) (pg_name (i := 2) sc_law_number.nd rfl (by first | exact Or.inl rfl | exact Or.inr rfl)) (pss_one (ps_if (pt_cmpR o_notSign (pv 2) pe_str (by with_unfolding_all rfl)) (pss_one (ps_ret pe_non)) pss_nil)))
    (pss_one (ps_ret (pe_callTy c_intS (by rfl) T.b_int bt_int (pa_cons (pv 0) pa_nil))))))))
theorem ok_law_deal (T : Facts K mg) : FnOk Pg w K mg base (L2.CX Pg w) 2 T.law_deal.f T.law_deal.fd ["_law_text"] (spOf K (S_law_deal T.c)) := by
  refine fn_ok T.law_deal.F sc_law_deal (fun ds r h => len_law_deal h) (fun cdv A outer s H E hr => ⟨_, ?_, fun ds r h => ht_law_deal h⟩)
  exact (pss_cons (ps_set (i := 1) sc_law_deal.nd rfl (by first | exact Or.inl rfl | exact Or.inr rfl) (pe_bm PySem.F.plainAttrs_str PySem.F.slot_str_split PySem.F.type_str_split m_split (pv 0) (pa_cons pe_str pa_nil)))
    (pss_cons (ps_set (i := 2) sc_law_deal.nd rfl (by first | exact Or.inl rfl | exact Or.inr rfl) (pe_lst pa_nil))
    (pss_cons (ps_set (i := 3) sc_law_deal.nd rfl (by first | exact Or.inl rfl | exact Or.inr rfl) (pe_lst pa_nil))
    (pss_cons (ps_for (passes_of rfl) rfl (pi_list (pv 1)) (pg_name (i := 4) sc_law_deal.nd rfl (by first | exact Or.inl rfl | exact Or.inr rfl)) (pss_cons (ps_set (i := 5) sc_law_deal.nd rfl (by first | exact Or.inl rfl | exact Or.inr rfl) (pe_bm PySem.F.plainAttrs_str PySem.F.slot_str_split PySem.F.type_str_split m_split (pv 4) (pa_cons pe_str pa_nil)))
    (pss_cons (ps_if (PW.pt (pw_or (pt_cmpR (o_ne hr.units) (pe_callB c_len (by rfl) T.b_len bt_len (pa_cons (pv 5) pa_nil)) pe_int (nomark _)) (pw_or1 (pt_cmpR o_gt (pe_callB c_len (by rfl) T.b_len bt_len (pa_cons (pv 1) pa_nil)) pe_int (nomark _))))) (pss_one (ps_ret pe_non)) pss_nil)
    (pss_cons (ps_set (i := 6) sc_law_deal.nd rfl (by first | exact Or.inl rfl | exact Or.inr rfl) (pe_call (ok_law_number T) (hr.mono (by decide)) (by rfl) T.law_number.m T.law_number.F.kp T.law_number.b .nil (pass_call rfl rfl rfl rfl) (pa_cons (pe_ix ix_seq (pv 5) pe_int (fun _ _ => rfl)) pa_nil)))
    (pss_cons (ps_set (i := 7) sc_law_deal.nd rfl (by first | exact Or.inl rfl | exact Or.inr rfl) (pe_call (ok_law_number T) (hr.mono (by decide)) (by rfl) T.law_number.m T.law_number.F.kp T.law_number.b .nil (pass_call rfl rfl rfl rfl) (pa_cons (pe_ix ix_seq (pe_bm PySem.F.plainAttrs_str PySem.F.slot_str_split PySem.F.type_str_split m_split (pe_ix ix_seq (pv 5) pe_int (fun _ _ => rfl)) (pa_cons pe_str pa_nil)) pe_int (fun _ _ => rfl)) pa_nil)))
    (pss_cons (ps_if (PW.pt (pw_or (pt_cmpR o_isN (pv 6) pe_non (nomark _)) (pw_or (pt_cmpR o_isN (pv 7) pe_non (nomark _)) (pw_or (pt_cmpR o_lt (pv 6) pe_int (nomark _)) (pw_or (pt_cmpR o_ge (pv 6) (pe_callB c_len (by rfl) T.b_len bt_len (pa_cons (pv 1) pa_nil)) (nomark _)) (pw_or1 (pt_cmpR op_in_seq (pv 6) (pv 2) (by with_unfolding_all rfl)))))))) (pss_one (ps_ret pe_non)) pss_nil)
    (pss_cons (ps_set (i := 8) sc_law_deal.nd rfl (by first | exact Or.inl rfl | exact Or.inr rfl) (pe_op o_add (pe_op o_add (pe_callTy c_str (by rfl) T.b_str bt_str (pa_cons (pe_callB c_len (by rfl) T.b_len bt_len (pa_cons (pv 2) pa_nil)) pa_nil)) pe_str) (pe_callTy c_str (by rfl) T.b_str bt_str (pa_cons (pv 6) pa_nil))))
    (pss_cons (ps_if (pt_cmpR (o_ne hr.units) (pv 4) (pe_op o_add (pe_op o_add (pe_op o_add (pe_op o_add (pv 8) pe_str) (pe_callTy c_str (by rfl) T.b_str bt_str (pa_cons (pv 7) pa_nil))) pe_str) (pe_callTy c_str (by rfl) T.b_str bt_str (pa_cons (pe_callB c_len (by rfl) T.b_len bt_len (pa_cons (pv 1) pa_nil)) pa_nil))) (nomark _)) (pss_one (ps_ret pe_non)) pss_nil)
    (pss_cons (ps_expr (pe_bm PySem.F.plainAttrs_list PySem.F.slot_list_append PySem.F.type_list_append mt_append (pv 2) (pa_cons (pv 6) pa_nil)))
    (pss_one (ps_expr (pe_bm PySem.F.plainAttrs_list PySem.F.slot_list_append PySem.F.type_list_append mt_append (pv 3) (pa_cons (pv 7) pa_nil)))))))))))))
    (pss_one (ps_ret (pe_tup (pa_cons (pv 2) (pa_cons (pe_lc (own := [("_law_room", 6)]) rfl sc_law_deal.nd (pi_range1 (by rfl) T.b_range (pa_cons (pe_callB c_len (by rfl) T.b_len bt_len (pa_cons (pv 2) pa_nil)) pa_nil)) (blkOk_by (own := [("_law_room", 6)]) (N := N_law_deal) (sc := defScope s_law_deal) (by decide +kernel)) (fun _ _ _ _ _ => (pg_name (i := 6) sc_law_deal.nd rfl (by first | exact Or.inl rfl | exact Or.inr rfl))) (fun _ _ _ _ _ => pts_nil) (fun _ _ _ _ _ => (pe_ix ix_seq (pv 3) (pe_bm PySem.F.plainAttrs_list PySem.F.slot_list_index PySem.F.type_list_index mt_index (pv 2) (pa_cons (pv 6) pa_nil)) (fun _ _ => rfl)))) pa_nil)))))))))
theorem ok_is_whole (T : Facts K mg) : FnOk Pg w K mg base (L2.CX Pg w) 1 T.is_whole.f T.is_whole.fd ["thing"] (spOf K (S_is_whole T.c)) := by
  refine fn_ok T.is_whole.F sc_is_whole (fun ds r h => len_is_whole h) (fun cdv A outer s H E hr => ⟨_, ?_, fun ds r h => ht_is_whole h⟩)
  exact (pss_one (ps_ret (pe_and (pe_callB c_isi (by rfl) T.b_isinstance bt_isinstance (pa_cons (pv 0) (pa_cons (pe_bltn (v := .ty "int") (by rfl) T.b_int bt_int rfl) pa_nil))) (pe_one (pe_not (pe_callB c_isi (by rfl) T.b_isinstance bt_isinstance (pa_cons (pv 0) (pa_cons (pe_bltn (v := .ty "bool") (by rfl) T.b_bool bt_bool rfl) pa_nil))))))))
theorem ok_are_places (T : Facts K mg) : FnOk Pg w K mg base (L2.CX Pg w) 2 T.are_places.f T.are_places.fd ["things", "many"] (spOf K (S_are_places T.c)) := by
  refine fn_ok T.are_places.F sc_are_places (fun ds r h => len_are_places h) (fun cdv A outer s H E hr => ⟨_, ?_, fun ds r h => ht_are_places h⟩)
  exact (pss_cons (ps_if (pt_not (pt_val (pe_callB c_isi (by rfl) T.b_isinstance bt_isinstance (pa_cons (pv 0) (pa_cons (pe_bltn (v := .ty "list") (by rfl) T.b_list bt_list rfl) pa_nil))))) (pss_one (ps_ret pe_bl)) pss_nil)
    (pss_cons (ps_set (i := 2) sc_are_places.nd rfl (by first | exact Or.inl rfl | exact Or.inr rfl) pe_dnewK)
    (pss_cons (ps_for (passes_of rfl) rfl (pi_list (pv 0)) (pg_name (i := 3) sc_are_places.nd rfl (by first | exact Or.inl rfl | exact Or.inr rfl)) (pss_cons (ps_if (PW.pt (pw_or (pt_not (pt_val (pe_call (ok_is_whole T) (hr.mono (by decide)) (by rfl) T.is_whole.m T.is_whole.F.kp T.is_whole.b .nil (pass_call rfl rfl rfl rfl) (pa_cons (pv 3) pa_nil)))) (pw_or (pt_not (pt_chain o_le o_lt pe_int (pv 3) (pv 1))) (pw_or1 (pt_cmp (pc_din (hu_of hr) (pv 3) (pv 2)) rfl))))) (pss_one (ps_ret pe_bl)) pss_nil)
    (pss_one (ps_dput (hu_of hr) (pv 2) (pv 3) pe_bl rfl))))
    (pss_one (ps_ret pe_bl)))))
theorem ok_number_in (T : Facts K mg) : FnOk Pg w K mg base (L2.CX Pg w) 1 T.number_in.f T.number_in.fd ["word", "is_below"] (spOf K (S_number_in T.c)) := by
  refine fn_ok T.number_in.F sc_number_in (fun ds r h => len_number_in h) (fun cdv A outer s H E hr => ⟨_, ?_, fun ds r h => ht_number_in h⟩)
  exact (pss_cons (ps_set (i := 2) sc_number_in.nd rfl (by first | exact Or.inl rfl | exact Or.inr rfl) (pv 0))
    (pss_cons (ps_if (PW.pt (pw_and (pt_val (pv 1)) (pw_and1 (pt_cmpR (o_eq hr.units) (pe_slice sl_str (pv 0) po_none (po_some pe_int)) pe_str (nomark _))))) (pss_one (ps_set (i := 2) sc_number_in.nd rfl (by first | exact Or.inl rfl | exact Or.inr rfl) (pe_slice sl_str (pv 0) (po_some pe_int) po_none))) pss_nil)
    (pss_cons (ps_if (PW.pt (pw_or (pt_not (pt_chain o_le o_le pe_int (pe_callB c_len (by rfl) T.b_len bt_len (pa_cons (pv 2) pa_nil)) (pe_glob (by rfl) T.k_MOST_FIGURES.choose_spec ⟨_, rfl⟩))) (pw_or1 (pt_not (pt_val (pe_callB (c_all rfl) (by rfl) T.b_all bt_all (pa_cons (pe_lc (own := [("sign", 3)]) rfl sc_number_in.nd (pi_str (pv 2)) (blkOk_by (own := [("sign", 3)]) (N := N_number_in) (sc := defScope s_number_in) (by decide +kernel)) (fun _ _ _ _ _ => (pg_name (i := 3) sc_number_in.nd rfl (by first | exact Or.inl rfl | exact Or.inr rfl))) (fun _ _ _ _ _ => pts_nil) (fun _ _ _ _ _ => (pe_cmpR o_inSign (pv 3) pe_str (by with_unfolding_all rfl)))) pa_nil))))))) (pss_one (p_raise T.x_NoDeal rfl rfl rfl rfl rfl (by rfl))) pss_nil)
    (pss_cons (ps_if (PW.pt (pw_and (pt_cmpR (o_eq hr.units) (pe_ix ix_seq (pv 2) pe_int (fun _ _ => rfl)) pe_str (nomark _)) (pw_and1 (PW.pt (pw_or (pt_cmpR o_gt (pe_callB c_len (by rfl) T.b_len bt_len (pa_cons (pv 2) pa_nil)) pe_int (nomark _)) (pw_or1 (pt_cmpR (o_ne hr.units) (pv 2) (pv 0) (nomark _)))))))) (pss_one (p_raise T.x_NoDeal rfl rfl rfl rfl rfl (by rfl))) pss_nil)
    (pss_cons (ps_if (pt_cmpR (o_ne hr.units) (pv 2) (pv 0) (nomark _)) (pss_one (ps_ret (pe_un un_neg (pe_callTy c_intS (by rfl) T.b_int bt_int (pa_cons (pv 2) pa_nil))))) pss_nil)
    (pss_one (ps_ret (pe_callTy c_intS (by rfl) T.b_int bt_int (pa_cons (pv 2) pa_nil)))))))))
theorem ok_read_row (T : Facts K mg) : FnOk Pg w K mg base (L2.CX Pg w) 2 T.read_row.f T.read_row.fd ["row", "lodger", "many"] (spOf K (S_read_row T.c)) := by
  refine fn_ok T.read_row.F sc_read_row (fun ds r h => len_read_row h) (fun cdv A outer s H E hr => ⟨_, ?_, fun ds r h => ht_read_row h⟩)
  exact (pss_cons (ps_set (i := 3) sc_read_row.nd rfl (by first | exact Or.inl rfl | exact Or.inr rfl) (pe_bm PySem.F.plainAttrs_str PySem.F.slot_str_split PySem.F.type_str_split m_split (pv 0) (pa_cons pe_str pa_nil)))
    (pss_cons (ps_if (PW.pt (pw_or (pt_cmpR (o_ne hr.units) (pe_callB c_len (by rfl) T.b_len bt_len (pa_cons (pv 3) pa_nil)) pe_int (nomark _)) (pw_or (pt_cmpR (o_ne hr.units) (pe_ix ix_seq (pv 3) pe_int (fun _ _ => rfl)) (p_joined (PJ.cons (pe_fmt (pv 1)) (PJ.cons pe_str PJ.nil))) (nomark _)) (pw_or (pt_cmpR (o_ne hr.units) (pe_ix ix_seq (pv 3) pe_int (fun _ _ => rfl)) pe_str (nomark _)) (pw_or1 (pt_cmpR (o_ne hr.units) (pe_ix ix_seq (pv 3) pe_int (fun _ _ => rfl)) pe_str (nomark _))))))) (pss_one (p_raise T.x_NoDeal rfl rfl rfl rfl rfl (by rfl))) pss_nil)
    (pss_cons (ps_set (i := 4) sc_read_row.nd rfl (by first | exact Or.inl rfl | exact Or.inr rfl) (pe_call (ok_number_in T) (hr.mono (by decide)) (by rfl) T.number_in.m T.number_in.F.kp T.number_in.b .nil (pass_call rfl rfl rfl rfl) (pa_cons (pe_ix ix_seq (pv 3) pe_int (fun _ _ => rfl)) (pa_cons pe_bl pa_nil))))
    (pss_cons (ps_set (i := 5) sc_read_row.nd rfl (by first | exact Or.inl rfl | exact Or.inr rfl) (pe_bm PySem.F.plainAttrs_str PySem.F.slot_str_split PySem.F.type_str_split m_split (pe_ix ix_seq (pv 3) pe_int (fun _ _ => rfl)) (pa_cons pe_str pa_nil)))
    (pss_cons (ps_if (PW.pt (pw_or (pt_cmpR (o_ne hr.units) (pe_callB c_len (by rfl) T.b_len bt_len (pa_cons (pv 5) pa_nil)) pe_int (nomark _)) (pw_or (pt_cmpR (o_ne hr.units) (pe_call (ok_number_in T) (hr.mono (by decide)) (by rfl) T.number_in.m T.number_in.F.kp T.number_in.b .nil (pass_call rfl rfl rfl rfl) (pa_cons (pe_ix ix_seq (pv 5) pe_int (fun _ _ => rfl)) (pa_cons pe_bl pa_nil))) (pv 2) (nomark _)) (pw_or1 (pt_cmpR o_ge (pv 4) (pv 2) (nomark _)))))) (pss_one (p_raise T.x_NoDeal rfl rfl rfl rfl rfl (by rfl))) pss_nil)
    (pss_one (ps_ret (pe_tup (pa_cons (pv 4) (pa_cons (pe_call (ok_number_in T) (hr.mono (by decide)) (by rfl) T.number_in.m T.number_in.F.kp T.number_in.b .nil (pass_call rfl rfl rfl rfl) (pa_cons (pe_ix ix_seq (pv 5) pe_int (fun _ _ => rfl)) (pa_cons pe_bl pa_nil))) pa_nil))))))))))
theorem ok_read (T : Facts K mg) : FnOk Pg w K mg base (L2.CX Pg w) 3 T.read.f T.read.fd ["text"] (spOf K (S_read T.c)) := by
  refine fn_ok T.read.F sc_read (fun ds r h => len_read h) (fun cdv A outer s H E hr => ⟨_, ?_, fun ds r h => ht_read h⟩)
  exact (pss_cons (ps_if (pt_not (pt_val (pe_callB c_isi (by rfl) T.b_isinstance bt_isinstance (pa_cons (pv 0) (pa_cons (pe_bltn (v := .ty "str") (by rfl) T.b_str bt_str rfl) pa_nil))))) (pss_one (p_raise T.x_NoDeal rfl rfl rfl rfl rfl (by rfl))) pss_nil)
    (pss_cons (ps_set (i := 1) sc_read.nd rfl (by first | exact Or.inl rfl | exact Or.inr rfl) (pe_bm PySem.F.plainAttrs_str PySem.F.slot_str_split PySem.F.type_str_split m_split (pv 0) (pa_cons pe_str pa_nil)))
    (pss_cons (ps_if (pt_cmpR o_gt (pe_callB c_len (by rfl) T.b_len bt_len (pa_cons (pv 1) pa_nil)) (pe_glob (by rfl) T.k_MOST_LODGERS.choose_spec ⟨_, rfl⟩) (nomark _)) (pss_one (p_raise T.x_NoDeal rfl rfl rfl rfl rfl (by rfl))) pss_nil)
    (pss_cons (ps_set (i := 2) sc_read.nd rfl (by first | exact Or.inl rfl | exact Or.inr rfl) (pe_lst pa_nil))
    (pss_cons (ps_for (passes_of rfl) rfl (pi_range1 (by rfl) T.b_range (pa_cons (pe_callB c_len (by rfl) T.b_len bt_len (pa_cons (pv 1) pa_nil)) pa_nil)) (pg_name (i := 3) sc_read.nd rfl (by first | exact Or.inl rfl | exact Or.inr rfl)) (pss_one (ps_expr (pe_bm PySem.F.plainAttrs_list PySem.F.slot_list_append PySem.F.type_list_append mt_append (pv 2) (pa_cons (pe_call (ok_read_row T) (hr.mono (by decide)) (by rfl) T.read_row.m T.read_row.F.kp T.read_row.b .nil (pass_call rfl rfl rfl rfl) (pa_cons (pe_ix ix_seq (pv 1) (pv 3) (fun _ _ => rfl)) (pa_cons (pv 3) (pa_cons (pe_callB c_len (by rfl) T.b_len bt_len (pa_cons (pv 1) pa_nil)) pa_nil)))) pa_nil)))))
    (pss_cons (ps_setLc (i := 4) (own := [("room", 6), ("part", 7)]) rfl sc_read.nd rfl rfl (sw_true rfl rfl rfl (by decide +kernel)) (pi_list (pv 2)) (blkOk_by (own := [("room", 6), ("part", 7)]) (N := N_read) (sc := defScope s_read) (by decide +kernel)) (fun _ _ _ _ _ => (pg_tup rfl (pgs_cons (pg_name (i := 6) sc_read.nd rfl (by first | exact Or.inl rfl | exact Or.inr rfl)) (pgs_cons (pg_name (i := 7) sc_read.nd rfl (by first | exact Or.inl rfl | exact Or.inr rfl)) pgs_nil)))) (fun _ _ _ _ _ => pts_nil) (fun _ _ _ _ _ => (pv 6)))
    (pss_cons (ps_if (pt_not (pt_val (pe_call (ok_are_places T) (hr.mono (by decide)) (by rfl) T.are_places.m T.are_places.F.kp T.are_places.b .nil (pass_call rfl rfl rfl rfl) (pa_cons (pv 4) (pa_cons (pe_callB c_len (by rfl) T.b_len bt_len (pa_cons (pv 4) pa_nil)) pa_nil))))) (pss_one (p_raise T.x_NoDeal rfl rfl rfl rfl rfl (by rfl))) pss_nil)
    (pss_cons (ps_set (i := 5) sc_read.nd rfl (by first | exact Or.inl rfl | exact Or.inr rfl) (pe_op o_mul (pe_lst (pa_cons pe_int pa_nil)) (pe_callB c_len (by rfl) T.b_len bt_len (pa_cons (pv 4) pa_nil))))
    (pss_cons (ps_for (passes_of rfl) rfl (pi_list (pv 2)) (pg_tup rfl (pgs_cons (pg_name (i := 6) sc_read.nd rfl (by first | exact Or.inl rfl | exact Or.inr rfl)) (pgs_cons (pg_name (i := 7) sc_read.nd rfl (by first | exact Or.inl rfl | exact Or.inr rfl)) pgs_nil))) (pss_one (ps_asg (pv 7) (pg_sub (pv 5) (pv 6) set_list))))
    (pss_one (ps_ret (pe_tup (pa_cons (pv 4) (pa_cons (pv 5) pa_nil))))))))))))))
theorem ok_law_refused_k12 (T : Facts K mg) : FnOk Pg w K mg base (L2.CX Pg w) 4 T.law_refused_k12.f T.law_refused_k12.fd ["_law_text", "_law_kind"] (spOf K (S_law_refused_k12 T.c)) := by
  refine fn_ok T.law_refused_k12.F sc_law_refused_k12 (fun ds r h => len_law_refused_k12 h) (fun cdv A outer s H E hr => ⟨_, ?_, fun ds r h => ht_law_refused_k12 T.tf_law_refused_k12 h⟩)
  exact (pss_cons (ps_if (pt_cmpR (o_eq hr.units) (pv 1) pe_int (nomark _)) (pss_cons (p_try_as (i := 2) (tb := (fun W => (tDrop (tCallS (spOf K (S_read T.c)) (WE W) (tCons (tVar 0) tNil))))) (ts := (fun a cls d => (tSeq (tIfS (tB (tCB (rIsET K cls d a) (tCons (tVar 2) (tCons (tTup (tCons (tC (.ref T.c.bt)) (tCons (tC (.ref T.c.br)) (tCons (tC (.ref T.c.be)) (tCons (tC (.ref T.c.nb)) tNil))))) tNil)))) (tRet (tC (.bl false))) tNext) (tRet (tCB (rIsE1 K cls d a) (tCons (tVar 2) (tCons (tC (.ref T.c.nd)) tNil))))))) rfl rfl sc_law_refused_k12.nd rfl rfl ⟨by rfl, by decide, .inl T.x_ShareError.g⟩ (takes_of rfl rfl rfl rfl) (fun W pn xe tk hpo => (pss_one (ps_expr (pe_callS (ok_read T) (hr.mono (by decide)) (by rfl) T.read.m T.read.F.kp T.read.b (fun σ => passAt tk σ) (pa_cons (pv 0) pa_nil))))) (fun a oe cls d pn hz hf => (pss_cons (ps_if (pt_val (pe_callB (c_isET hz hf) (by rfl) T.b_isinstance bt_isinstance (pa_cons (pv 2) (pa_cons (pe_tup (pa_cons (pe_glob (by rfl) T.x_BadTable.g rfl) (pa_cons (pe_glob (by rfl) T.x_BadRooms.g rfl) (pa_cons (pe_glob (by rfl) T.x_BadRent.g rfl) (pa_cons (pe_glob (by rfl) T.x_NotBest.g rfl) pa_nil))))) pa_nil)))) (pss_one (ps_ret pe_bl)) pss_nil) (pss_one (ps_ret (pe_callB (c_isE1 hz hf) (by rfl) T.b_isinstance bt_isinstance (pa_cons (pv 2) (pa_cons (pe_glob (by rfl) T.x_NoDeal.g rfl) pa_nil))))))))
    (pss_one (ps_ret pe_bl))) pss_nil)
    (pss_cons (ps_if (pt_cmpR (o_eq hr.units) (pv 1) pe_int (nomark _)) (pss_cons (p_try_as (i := 2) (tb := (fun W => (tDrop (tCallS (spOf K (S_read T.c)) (WE W) (tCons (tVar 0) tNil))))) (ts := (fun a cls d => (tRet (tCB (rIsE1 K cls d a) (tCons (tVar 2) (tCons (tC (.ty "ValueError")) tNil)))))) rfl rfl sc_law_refused_k12.nd rfl rfl ⟨by rfl, by decide, .inl T.x_ShareError.g⟩ (takes_of rfl rfl rfl rfl) (fun W pn xe tk hpo => (pss_one (ps_expr (pe_callS (ok_read T) (hr.mono (by decide)) (by rfl) T.read.m T.read.F.kp T.read.b (fun σ => passAt tk σ) (pa_cons (pv 0) pa_nil))))) (fun a oe cls d pn hz hf => (pss_one (ps_ret (pe_callB (c_isE1 hz hf) (by rfl) T.b_isinstance bt_isinstance (pa_cons (pv 2) (pa_cons (pe_bltn (v := .ty "ValueError") (by rfl) T.b_ValueError bt_ValueError rfl) pa_nil)))))))
    (pss_one (ps_ret pe_bl))) pss_nil)
    (pss_cons (p_try (tb := (fun W => (tDrop (tCallS (spOf K (S_read T.c)) (WE W) (tCons (tVar 0) tNil))))) (ts := (fun a cls d => (tRet (tC (.bl true))))) rfl rfl ⟨by rfl, by decide, .inl T.x_NoDeal.g⟩ (takes_of rfl rfl rfl rfl) (fun W pn xe tk hpo => (pss_one (ps_expr (pe_callS (ok_read T) (hr.mono (by decide)) (by rfl) T.read.m T.read.F.kp T.read.b (fun σ => passAt tk σ) (pa_cons (pv 0) pa_nil))))) (fun a oe cls d pn hz hf => (pss_one (ps_ret pe_bl))))
    (pss_one (ps_ret pe_bl)))))
theorem ok_law_whole_row (T : Facts K mg) : FnOk Pg w K mg base (L2.CX Pg w) 1 T.law_whole_row.f T.law_whole_row.fd ["_law_row", "_law_size"] (spOf K (S_law_whole_row T.c)) := by
  refine fn_ok T.law_whole_row.F sc_law_whole_row (fun ds r h => len_law_whole_row h) (fun cdv A outer s H E hr => ⟨_, ?_, fun ds r h => ht_law_whole_row h⟩)
  exact (pss_cons (ps_if (PW.pt (pw_or (pt_not (pt_val (pe_callB c_isi (by rfl) T.b_isinstance bt_isinstance (pa_cons (pv 0) (pa_cons (pe_bltn (v := .ty "list") (by rfl) T.b_list bt_list rfl) pa_nil))))) (pw_or1 (pt_cmpR (o_ne hr.units) (pe_callB c_len (by rfl) T.b_len bt_len (pa_cons (pv 0) pa_nil)) (pv 1) (nomark _))))) (pss_one (ps_ret pe_bl)) pss_nil)
    (pss_cons (ps_for (passes_of rfl) rfl (pi_list (pv 0)) (pg_name (i := 2) sc_law_whole_row.nd rfl (by first | exact Or.inl rfl | exact Or.inr rfl)) (pss_one (ps_if (PW.pt (pw_or (pt_not (pt_val (pe_callB c_isi (by rfl) T.b_isinstance bt_isinstance (pa_cons (pv 2) (pa_cons (pe_bltn (v := .ty "int") (by rfl) T.b_int bt_int rfl) pa_nil))))) (pw_or1 (pt_val (pe_callB c_isi (by rfl) T.b_isinstance bt_isinstance (pa_cons (pv 2) (pa_cons (pe_bltn (v := .ty "bool") (by rfl) T.b_bool bt_bool rfl) pa_nil))))))) (pss_one (ps_ret pe_bl)) pss_nil)))
    (pss_one (ps_ret pe_bl))))
theorem ok_law_k12 (T : Facts K mg) : FnOk Pg w K mg base (L2.CX Pg w) 5 T.law_k12.f T.law_k12.fd ["_law_script"] (spOf K (S_law_k12 T.c)) := by
  refine fn_ok T.law_k12.F sc_law_k12 (fun ds r h => len_law_k12 h) (fun cdv A outer s H E hr => ⟨_, ?_, fun ds r h => ht_law_k12 h⟩)
  exact (pss_cons (ps_set (i := 1) sc_law_k12.nd rfl (by first | exact Or.inl rfl | exact Or.inr rfl) (pe_op o_mod (pe_op o_div (pe_call (ok_law_cell_at T) (hr.mono (by decide)) (by rfl) T.law_cell_at.m T.law_cell_at.F.kp T.law_cell_at.b .nil (pass_call rfl rfl rfl rfl) (pa_cons (pv 0) (pa_cons pe_int pa_nil))) pe_int) pe_int))
    (pss_cons (ps_if (pt_cmpR (o_eq hr.units) (pe_op o_mod (pe_op o_div (pe_call (ok_law_cell_at T) (hr.mono (by decide)) (by rfl) T.law_cell_at.m T.law_cell_at.F.kp T.law_cell_at.b .nil (pass_call rfl rfl rfl rfl) (pa_cons (pv 0) (pa_cons pe_int pa_nil))) pe_int) pe_int) pe_int (nomark _)) (pss_one (ps_ret (pe_call (ok_law_refused_k12 T) (hr.mono (by decide)) (by rfl) T.law_refused_k12.m T.law_refused_k12.F.kp T.law_refused_k12.b .nil (pass_call rfl rfl rfl rfl) (pa_cons (pe_ix ix_seq (pe_lst (pa_cons pe_non (pa_cons pe_int (pa_cons (pe_lst pa_nil) (pa_cons (pe_lst (pa_cons pe_str pa_nil)) (pa_cons pe_bl (pa_cons pe_int pa_nil))))))) (pe_op o_mod (pe_call (ok_law_cell_at T) (hr.mono (by decide)) (by rfl) T.law_cell_at.m T.law_cell_at.F.kp T.law_cell_at.b .nil (pass_call rfl rfl rfl rfl) (pa_cons (pv 0) (pa_cons pe_int pa_nil))) pe_int) (fun _ _ => rfl)) (pa_cons (pv 1) pa_nil))))) pss_nil)
    (pss_cons (ps_set (i := 2) sc_law_k12.nd rfl (by first | exact Or.inl rfl | exact Or.inr rfl) (pe_call (ok_law_text_by T) (hr.mono (by decide)) (by rfl) T.law_text_by.m T.law_text_by.F.kp T.law_text_by.b .nil (pass_call rfl rfl rfl rfl) (pa_cons (pv 0) pa_nil)))
    (pss_cons (ps_set (i := 3) sc_law_k12.nd rfl (by first | exact Or.inl rfl | exact Or.inr rfl) (pe_call (ok_law_deal T) (hr.mono (by decide)) (by rfl) T.law_deal.m T.law_deal.F.kp T.law_deal.b .nil (pass_call rfl rfl rfl rfl) (pa_cons (pv 2) pa_nil)))
    (pss_cons (ps_if (pt_cmpR o_isN (pv 3) pe_non (nomark _)) (pss_one (ps_ret (pe_call (ok_law_refused_k12 T) (hr.mono (by decide)) (by rfl) T.law_refused_k12.m T.law_refused_k12.F.kp T.law_refused_k12.b .nil (pass_call rfl rfl rfl rfl) (pa_cons (pv 2) (pa_cons (pv 1) pa_nil))))) pss_nil)
    (pss_cons (ps_set (i := 4) sc_law_k12.nd rfl (by first | exact Or.inl rfl | exact Or.inr rfl) (pe_call (ok_read T) (hr.mono (by decide)) (by rfl) T.read.m T.read.F.kp T.read.b .nil (pass_call rfl rfl rfl rfl) (pa_cons (pv 2) pa_nil)))
    (pss_cons (ps_if (PW.pt (pw_or (pt_not (pt_val (pe_callB c_isi (by rfl) T.b_isinstance bt_isinstance (pa_cons (pv 4) (pa_cons (pe_bltn (v := .ty "tuple") (by rfl) T.b_tuple bt_tuple rfl) pa_nil))))) (pw_or1 (pt_cmpR (o_ne hr.units) (pe_callB c_len (by rfl) T.b_len bt_len (pa_cons (pv 4) pa_nil)) pe_int (nomark _))))) (pss_one (ps_ret pe_bl)) pss_nil)
    (pss_cons (ps_set (i := 5) sc_law_k12.nd rfl (by first | exact Or.inl rfl | exact Or.inr rfl) (pe_callB c_len (by rfl) T.b_len bt_len (pa_cons (pe_ix ix_seq (pv 3) pe_int (fun _ _ => rfl)) pa_nil)))
    (pss_one (ps_ret (pe_and (pe_call (ok_law_whole_row T) (hr.mono (by decide)) (by rfl) T.law_whole_row.m T.law_whole_row.F.kp T.law_whole_row.b .nil (pass_call rfl rfl rfl rfl) (pa_cons (pe_ix ix_seq (pv 4) pe_int (fun _ _ => rfl)) (pa_cons (pv 5) pa_nil))) (pe_and (pe_call (ok_law_whole_row T) (hr.mono (by decide)) (by rfl) T.law_whole_row.m T.law_whole_row.F.kp T.law_whole_row.b .nil (pass_call rfl rfl rfl rfl) (pa_cons (pe_ix ix_seq (pv 4) pe_int (fun _ _ => rfl)) (pa_cons (pv 5) pa_nil))) (pe_one (pe_cmpR (o_eq hr.units) (pv 4) (pv 3) (nomark _)))))))))))))))
end
theorem all_mk {l : PySem.W.OpenLaw} {w : World} {K : PySem.W.Frag} {h : Heap} {mg : Str → Option Value} {fa : Addr} (X : K.In h) (G : h.Ns mainGlobals mg) (hfa : mg "law" = some (.ref fa))
    (z_ValueError : PySem.W.nsIn K mainGlobals "ValueError" = some none)
    (z_all : PySem.W.nsIn K mainGlobals "all" = some none)
    (z_bool : PySem.W.nsIn K mainGlobals "bool" = some none)
    (z_int : PySem.W.nsIn K mainGlobals "int" = some none)
    (z_isinstance : PySem.W.nsIn K mainGlobals "isinstance" = some none)
    (z_len : PySem.W.nsIn K mainGlobals "len" = some none)
    (z_list : PySem.W.nsIn K mainGlobals "list" = some none)
    (z_max : PySem.W.nsIn K mainGlobals "max" = some none)
    (z_range : PySem.W.nsIn K mainGlobals "range" = some none)
    (z_str : PySem.W.nsIn K mainGlobals "str" = some none)
    (z_tuple : PySem.W.nsIn K mainGlobals "tuple" = some none)
    {tk_MOST_FIGURES : Tok} (c_MOST_FIGURES : PySem.W.nsIn K mainGlobals "MOST_FIGURES" = some (some (.int 30 tk_MOST_FIGURES)))
    {tk_MOST_LODGERS : Tok} (c_MOST_LODGERS : PySem.W.nsIn K mainGlobals "MOST_LODGERS" = some (some (.int 8 tk_MOST_LODGERS)))
    {C_BadRent : Addr} (g_BadRent : PySem.W.nsIn K mainGlobals "BadRent" = some (some (.ref C_BadRent))) (k_BadRent : PySem.W.keepIn K (.ref C_BadRent) = true) (e_BadRent : PySem.W.excIn K C_BadRent [.type "ValueError", .type "Exception", .type "BaseException", .type "object"] "ValueError.__new__" = true) (s_BadRent : PySem.W.subIn K (.ref C_BadRent) (.type "BaseException") = some true) (t_BadRent : PySem.W.typeIn K (.ref C_BadRent) = some (.type "type"))
    {C_BadRooms : Addr} (g_BadRooms : PySem.W.nsIn K mainGlobals "BadRooms" = some (some (.ref C_BadRooms))) (k_BadRooms : PySem.W.keepIn K (.ref C_BadRooms) = true) (e_BadRooms : PySem.W.excIn K C_BadRooms [.type "ValueError", .type "Exception", .type "BaseException", .type "object"] "ValueError.__new__" = true) (s_BadRooms : PySem.W.subIn K (.ref C_BadRooms) (.type "BaseException") = some true) (t_BadRooms : PySem.W.typeIn K (.ref C_BadRooms) = some (.type "type"))
    {C_BadTable : Addr} (g_BadTable : PySem.W.nsIn K mainGlobals "BadTable" = some (some (.ref C_BadTable))) (k_BadTable : PySem.W.keepIn K (.ref C_BadTable) = true) (e_BadTable : PySem.W.excIn K C_BadTable [.type "ValueError", .type "Exception", .type "BaseException", .type "object"] "ValueError.__new__" = true) (s_BadTable : PySem.W.subIn K (.ref C_BadTable) (.type "BaseException") = some true) (t_BadTable : PySem.W.typeIn K (.ref C_BadTable) = some (.type "type"))
    {C_NoDeal : Addr} (g_NoDeal : PySem.W.nsIn K mainGlobals "NoDeal" = some (some (.ref C_NoDeal))) (k_NoDeal : PySem.W.keepIn K (.ref C_NoDeal) = true) (e_NoDeal : PySem.W.excIn K C_NoDeal [.type "ValueError", .type "Exception", .type "BaseException", .type "object"] "ValueError.__new__" = true) (s_NoDeal : PySem.W.subIn K (.ref C_NoDeal) (.type "BaseException") = some true) (t_NoDeal : PySem.W.typeIn K (.ref C_NoDeal) = some (.type "type"))
    {C_NotBest : Addr} (g_NotBest : PySem.W.nsIn K mainGlobals "NotBest" = some (some (.ref C_NotBest))) (k_NotBest : PySem.W.keepIn K (.ref C_NotBest) = true) (e_NotBest : PySem.W.excIn K C_NotBest [.type "ValueError", .type "Exception", .type "BaseException", .type "object"] "ValueError.__new__" = true) (s_NotBest : PySem.W.subIn K (.ref C_NotBest) (.type "BaseException") = some true) (t_NotBest : PySem.W.typeIn K (.ref C_NotBest) = some (.type "type"))
    {C_ShareError : Addr} (g_ShareError : PySem.W.nsIn K mainGlobals "ShareError" = some (some (.ref C_ShareError))) (k_ShareError : PySem.W.keepIn K (.ref C_ShareError) = true) (e_ShareError : PySem.W.excIn K C_ShareError [.type "ValueError", .type "Exception", .type "BaseException", .type "object"] "ValueError.__new__" = true) (s_ShareError : PySem.W.subIn K (.ref C_ShareError) (.type "BaseException") = some true) (t_ShareError : PySem.W.typeIn K (.ref C_ShareError) = some (.type "type"))
    {f_law_rooms_by : Addr} {oc_law_rooms_by : Value} {od_law_rooms_by an_law_rooms_by : Option Addr} {sl_law_rooms_by : Array (Option Value)} {kV_law_rooms_by dc_law_rooms_by pm_law_rooms_by cd_law_rooms_by ct_law_rooms_by : Value} (a_law_rooms_by : PySem.W.nsIn K mainGlobals "_law_rooms_by" = some (some (.ref f_law_rooms_by))) (l_law_rooms_by : K.lookup f_law_rooms_by = some ⟨oc_law_rooms_by, od_law_rooms_by, .func (PySem.W.fnOf "_law_rooms_by" "_law_rooms_by" (defArgs s_law_rooms_by) (defBody s_law_rooms_by) (defScope s_law_rooms_by) .none kV_law_rooms_by dc_law_rooms_by pm_law_rooms_by an_law_rooms_by cd_law_rooms_by ct_law_rooms_by), sl_law_rooms_by⟩) (d_law_rooms_by : PySem.W.codeIn K cd_law_rooms_by "_law_rooms_by" = true) (p_law_rooms_by : PySem.W.keepIn K (.ref f_law_rooms_by) = true)
    {f_law_cell_at : Addr} {oc_law_cell_at : Value} {od_law_cell_at an_law_cell_at : Option Addr} {sl_law_cell_at : Array (Option Value)} {kV_law_cell_at dc_law_cell_at pm_law_cell_at cd_law_cell_at ct_law_cell_at : Value} (a_law_cell_at : PySem.W.nsIn K mainGlobals "_law_cell_at" = some (some (.ref f_law_cell_at))) (l_law_cell_at : K.lookup f_law_cell_at = some ⟨oc_law_cell_at, od_law_cell_at, .func (PySem.W.fnOf "_law_cell_at" "_law_cell_at" (defArgs s_law_cell_at) (defBody s_law_cell_at) (defScope s_law_cell_at) .none kV_law_cell_at dc_law_cell_at pm_law_cell_at an_law_cell_at cd_law_cell_at ct_law_cell_at), sl_law_cell_at⟩) (d_law_cell_at : PySem.W.codeIn K cd_law_cell_at "_law_cell_at" = true) (p_law_cell_at : PySem.W.keepIn K (.ref f_law_cell_at) = true)
    {f_law_part_by_k12 : Addr} {oc_law_part_by_k12 : Value} {od_law_part_by_k12 an_law_part_by_k12 : Option Addr} {sl_law_part_by_k12 : Array (Option Value)} {kV_law_part_by_k12 dc_law_part_by_k12 pm_law_part_by_k12 cd_law_part_by_k12 ct_law_part_by_k12 : Value} (a_law_part_by_k12 : PySem.W.nsIn K mainGlobals "_law_part_by" = some (some (.ref f_law_part_by_k12))) (l_law_part_by_k12 : K.lookup f_law_part_by_k12 = some ⟨oc_law_part_by_k12, od_law_part_by_k12, .func (PySem.W.fnOf "_law_part_by" "_law_part_by" (defArgs s_law_part_by_k12) (defBody s_law_part_by_k12) (defScope s_law_part_by_k12) .none kV_law_part_by_k12 dc_law_part_by_k12 pm_law_part_by_k12 an_law_part_by_k12 cd_law_part_by_k12 ct_law_part_by_k12), sl_law_part_by_k12⟩) (d_law_part_by_k12 : PySem.W.codeIn K cd_law_part_by_k12 "_law_part_by" = true) (p_law_part_by_k12 : PySem.W.keepIn K (.ref f_law_part_by_k12) = true)
    {f_law_rows_by : Addr} {oc_law_rows_by : Value} {od_law_rows_by an_law_rows_by : Option Addr} {sl_law_rows_by : Array (Option Value)} {kV_law_rows_by dc_law_rows_by pm_law_rows_by cd_law_rows_by ct_law_rows_by : Value} (a_law_rows_by : PySem.W.nsIn K mainGlobals "_law_rows_by" = some (some (.ref f_law_rows_by))) (l_law_rows_by : K.lookup f_law_rows_by = some ⟨oc_law_rows_by, od_law_rows_by, .func (PySem.W.fnOf "_law_rows_by" "_law_rows_by" (defArgs s_law_rows_by) (defBody s_law_rows_by) (defScope s_law_rows_by) .none kV_law_rows_by dc_law_rows_by pm_law_rows_by an_law_rows_by cd_law_rows_by ct_law_rows_by), sl_law_rows_by⟩) (d_law_rows_by : PySem.W.codeIn K cd_law_rows_by "_law_rows_by" = true) (p_law_rows_by : PySem.W.keepIn K (.ref f_law_rows_by) = true)
    {f_law_sign_by : Addr} {oc_law_sign_by : Value} {od_law_sign_by an_law_sign_by : Option Addr} {sl_law_sign_by : Array (Option Value)} {kV_law_sign_by dc_law_sign_by pm_law_sign_by cd_law_sign_by ct_law_sign_by : Value} (a_law_sign_by : PySem.W.nsIn K mainGlobals "_law_sign_by" = some (some (.ref f_law_sign_by))) (l_law_sign_by : K.lookup f_law_sign_by = some ⟨oc_law_sign_by, od_law_sign_by, .func (PySem.W.fnOf "_law_sign_by" "_law_sign_by" (defArgs s_law_sign_by) (defBody s_law_sign_by) (defScope s_law_sign_by) .none kV_law_sign_by dc_law_sign_by pm_law_sign_by an_law_sign_by cd_law_sign_by ct_law_sign_by), sl_law_sign_by⟩) (d_law_sign_by : PySem.W.codeIn K cd_law_sign_by "_law_sign_by" = true) (p_law_sign_by : PySem.W.keepIn K (.ref f_law_sign_by) = true)
    {f_law_text_by : Addr} {oc_law_text_by : Value} {od_law_text_by an_law_text_by : Option Addr} {sl_law_text_by : Array (Option Value)} {kV_law_text_by dc_law_text_by pm_law_text_by cd_law_text_by ct_law_text_by : Value} (a_law_text_by : PySem.W.nsIn K mainGlobals "_law_text_by" = some (some (.ref f_law_text_by))) (l_law_text_by : K.lookup f_law_text_by = some ⟨oc_law_text_by, od_law_text_by, .func (PySem.W.fnOf "_law_text_by" "_law_text_by" (defArgs s_law_text_by) (defBody s_law_text_by) (defScope s_law_text_by) .none kV_law_text_by dc_law_text_by pm_law_text_by an_law_text_by cd_law_text_by ct_law_text_by), sl_law_text_by⟩) (d_law_text_by : PySem.W.codeIn K cd_law_text_by "_law_text_by" = true) (p_law_text_by : PySem.W.keepIn K (.ref f_law_text_by) = true)
    {f_law_number : Addr} {oc_law_number : Value} {od_law_number an_law_number : Option Addr} {sl_law_number : Array (Option Value)} {kV_law_number dc_law_number pm_law_number cd_law_number ct_law_number : Value} (a_law_number : PySem.W.nsIn K mainGlobals "_law_number" = some (some (.ref f_law_number))) (l_law_number : K.lookup f_law_number = some ⟨oc_law_number, od_law_number, .func (PySem.W.fnOf "_law_number" "_law_number" (defArgs s_law_number) (defBody s_law_number) (defScope s_law_number) .none kV_law_number dc_law_number pm_law_number an_law_number cd_law_number ct_law_number), sl_law_number⟩) (d_law_number : PySem.W.codeIn K cd_law_number "_law_number" = true) (p_law_number : PySem.W.keepIn K (.ref f_law_number) = true)
    {f_law_deal : Addr} {oc_law_deal : Value} {od_law_deal an_law_deal : Option Addr} {sl_law_deal : Array (Option Value)} {kV_law_deal dc_law_deal pm_law_deal cd_law_deal ct_law_deal : Value} (a_law_deal : PySem.W.nsIn K mainGlobals "_law_deal" = some (some (.ref f_law_deal))) (l_law_deal : K.lookup f_law_deal = some ⟨oc_law_deal, od_law_deal, .func (PySem.W.fnOf "_law_deal" "_law_deal" (defArgs s_law_deal) (defBody s_law_deal) (defScope s_law_deal) .none kV_law_deal dc_law_deal pm_law_deal an_law_deal cd_law_deal ct_law_deal), sl_law_deal⟩) (d_law_deal : PySem.W.codeIn K cd_law_deal "_law_deal" = true) (p_law_deal : PySem.W.keepIn K (.ref f_law_deal) = true)
    {f_is_whole : Addr} {oc_is_whole : Value} {od_is_whole an_is_whole : Option Addr} {sl_is_whole : Array (Option Value)} {kV_is_whole dc_is_whole pm_is_whole cd_is_whole ct_is_whole : Value} (a_is_whole : PySem.W.nsIn K mainGlobals "is_whole" = some (some (.ref f_is_whole))) (l_is_whole : K.lookup f_is_whole = some ⟨oc_is_whole, od_is_whole, .func (PySem.W.fnOf "is_whole" "is_whole" (defArgs s_is_whole) (defBody s_is_whole) (defScope s_is_whole) .none kV_is_whole dc_is_whole pm_is_whole an_is_whole cd_is_whole ct_is_whole), sl_is_whole⟩) (d_is_whole : PySem.W.codeIn K cd_is_whole "is_whole" = true) (p_is_whole : PySem.W.keepIn K (.ref f_is_whole) = true)
    {f_are_places : Addr} {oc_are_places : Value} {od_are_places an_are_places : Option Addr} {sl_are_places : Array (Option Value)} {kV_are_places dc_are_places pm_are_places cd_are_places ct_are_places : Value} (a_are_places : PySem.W.nsIn K mainGlobals "are_places" = some (some (.ref f_are_places))) (l_are_places : K.lookup f_are_places = some ⟨oc_are_places, od_are_places, .func (PySem.W.fnOf "are_places" "are_places" (defArgs s_are_places) (defBody s_are_places) (defScope s_are_places) .none kV_are_places dc_are_places pm_are_places an_are_places cd_are_places ct_are_places), sl_are_places⟩) (d_are_places : PySem.W.codeIn K cd_are_places "are_places" = true) (p_are_places : PySem.W.keepIn K (.ref f_are_places) = true)
    {f_number_in : Addr} {oc_number_in : Value} {od_number_in an_number_in : Option Addr} {sl_number_in : Array (Option Value)} {kV_number_in dc_number_in pm_number_in cd_number_in ct_number_in : Value} (a_number_in : PySem.W.nsIn K mainGlobals "number_in" = some (some (.ref f_number_in))) (l_number_in : K.lookup f_number_in = some ⟨oc_number_in, od_number_in, .func (PySem.W.fnOf "number_in" "number_in" (defArgs s_number_in) (defBody s_number_in) (defScope s_number_in) .none kV_number_in dc_number_in pm_number_in an_number_in cd_number_in ct_number_in), sl_number_in⟩) (d_number_in : PySem.W.codeIn K cd_number_in "number_in" = true) (p_number_in : PySem.W.keepIn K (.ref f_number_in) = true)
    {f_read_row : Addr} {oc_read_row : Value} {od_read_row an_read_row : Option Addr} {sl_read_row : Array (Option Value)} {kV_read_row dc_read_row pm_read_row cd_read_row ct_read_row : Value} (a_read_row : PySem.W.nsIn K mainGlobals "read_row" = some (some (.ref f_read_row))) (l_read_row : K.lookup f_read_row = some ⟨oc_read_row, od_read_row, .func (PySem.W.fnOf "read_row" "read_row" (defArgs s_read_row) (defBody s_read_row) (defScope s_read_row) .none kV_read_row dc_read_row pm_read_row an_read_row cd_read_row ct_read_row), sl_read_row⟩) (d_read_row : PySem.W.codeIn K cd_read_row "read_row" = true) (p_read_row : PySem.W.keepIn K (.ref f_read_row) = true)
    {f_read : Addr} {oc_read : Value} {od_read an_read : Option Addr} {sl_read : Array (Option Value)} {kV_read dc_read pm_read cd_read ct_read : Value} (a_read : PySem.W.nsIn K mainGlobals "read" = some (some (.ref f_read))) (l_read : K.lookup f_read = some ⟨oc_read, od_read, .func (PySem.W.fnOf "read" "read" (defArgs s_read) (defBody s_read) (defScope s_read) .none kV_read dc_read pm_read an_read cd_read ct_read), sl_read⟩) (d_read : PySem.W.codeIn K cd_read "read" = true) (p_read : PySem.W.keepIn K (.ref f_read) = true)
    {f_law_refused_k12 : Addr} {oc_law_refused_k12 : Value} {od_law_refused_k12 an_law_refused_k12 : Option Addr} {sl_law_refused_k12 : Array (Option Value)} {kV_law_refused_k12 dc_law_refused_k12 pm_law_refused_k12 cd_law_refused_k12 ct_law_refused_k12 : Value} (a_law_refused_k12 : PySem.W.nsIn K mainGlobals "_law_refused" = some (some (.ref f_law_refused_k12))) (l_law_refused_k12 : K.lookup f_law_refused_k12 = some ⟨oc_law_refused_k12, od_law_refused_k12, .func (PySem.W.fnOf "_law_refused" "_law_refused" (defArgs s_law_refused_k12) (defBody s_law_refused_k12) (defScope s_law_refused_k12) .none kV_law_refused_k12 dc_law_refused_k12 pm_law_refused_k12 an_law_refused_k12 cd_law_refused_k12 ct_law_refused_k12), sl_law_refused_k12⟩) (d_law_refused_k12 : PySem.W.codeIn K cd_law_refused_k12 "_law_refused" = true) (p_law_refused_k12 : PySem.W.keepIn K (.ref f_law_refused_k12) = true)
    {f_law_whole_row : Addr} {oc_law_whole_row : Value} {od_law_whole_row an_law_whole_row : Option Addr} {sl_law_whole_row : Array (Option Value)} {kV_law_whole_row dc_law_whole_row pm_law_whole_row cd_law_whole_row ct_law_whole_row : Value} (a_law_whole_row : PySem.W.nsIn K mainGlobals "_law_whole_row" = some (some (.ref f_law_whole_row))) (l_law_whole_row : K.lookup f_law_whole_row = some ⟨oc_law_whole_row, od_law_whole_row, .func (PySem.W.fnOf "_law_whole_row" "_law_whole_row" (defArgs s_law_whole_row) (defBody s_law_whole_row) (defScope s_law_whole_row) .none kV_law_whole_row dc_law_whole_row pm_law_whole_row an_law_whole_row cd_law_whole_row ct_law_whole_row), sl_law_whole_row⟩) (d_law_whole_row : PySem.W.codeIn K cd_law_whole_row "_law_whole_row" = true) (p_law_whole_row : PySem.W.keepIn K (.ref f_law_whole_row) = true)
    {f_law_k12 : Addr} {oc_law_k12 : Value} {od_law_k12 an_law_k12 : Option Addr} {sl_law_k12 : Array (Option Value)} {kV_law_k12 dc_law_k12 pm_law_k12 cd_law_k12 ct_law_k12 : Value} (a_law_k12 : PySem.W.nsIn K mainGlobals "law" = some (some (.ref f_law_k12))) (l_law_k12 : K.lookup f_law_k12 = some ⟨oc_law_k12, od_law_k12, .func (PySem.W.fnOf "law" "law" (defArgs s_law_k12) (defBody s_law_k12) (defScope s_law_k12) .none kV_law_k12 dc_law_k12 pm_law_k12 an_law_k12 cd_law_k12 ct_law_k12), sl_law_k12⟩) (d_law_k12 : PySem.W.codeIn K cd_law_k12 "law" = true) (p_law_k12 : PySem.W.keepIn K (.ref f_law_k12) = true)
    (xg_NoDeal : PySem.W.findIn K (.ref C_NoDeal) "__getattribute__" = some (some (.builtin "BaseException.__getattribute__")))
    (xk_NoDeal : PySem.W.findIn K (.ref C_NoDeal) "__getattr__" = some none)
    (xa_NoDeal : PySem.W.findIn K (.ref C_NoDeal) "__class__" = some (some (.builtin "object.__class__")))
    (xm_NoDeal : PySem.W.mroIn K C_NoDeal (.type "object") = some true)
    (xd_BadRent : PySem.W.hasDictIn K C_BadRent = true)
    (xd_BadRooms : PySem.W.hasDictIn K C_BadRooms = true)
    (xd_BadTable : PySem.W.hasDictIn K C_BadTable = true)
    (xd_NotBest : PySem.W.hasDictIn K C_NotBest = true)
    (xd_NoDeal : PySem.W.hasDictIn K C_NoDeal = true)
    (xd_ShareError : PySem.W.hasDictIn K C_ShareError = true)
    (xn : PySem.W.specialIn K (.builtin "object.__class__") "__get__" = some (some (.builtin "getset_descriptor.__get__"))) (xt : PySem.W.takesIn K (.builtin "object.__class__") = some true)
    (su_nd_VE : PySem.W.subIn K (.ref C_NoDeal) (.type "ValueError") = some true)
    (su_nd_be : PySem.W.subIn K (.ref C_NoDeal) (.ref C_BadRent) = some false)
    (su_nd_br : PySem.W.subIn K (.ref C_NoDeal) (.ref C_BadRooms) = some false)
    (su_nd_bt : PySem.W.subIn K (.ref C_NoDeal) (.ref C_BadTable) = some false)
    (su_nd_nb : PySem.W.subIn K (.ref C_NoDeal) (.ref C_NotBest) = some false)
    (su_nd_nd : PySem.W.subIn K (.ref C_NoDeal) (.ref C_NoDeal) = some true)
    (su_nd_sh : PySem.W.subIn K (.ref C_NoDeal) (.ref C_ShareError) = some true)
    : ∃ fd : FuncData, (∀ (s : Shared) (v : Value), BindsTo s fd ⟨[v], []⟩ [("_law_script", v)]) ∧ ∀ base : Heap, K.In base → base.Ns mainGlobals mg → FnOk l.prog w K mg base (L2.CX l.prog w) 5 fa fd ["_law_script"] (spOf K (S_law_k12 ⟨0, 0, 0, 0, 0, 0, 0⟩)) := by
  have e := hfa.symm.trans (PySem.W.mg_of X G a_law_k12)
  cases e
  let T : Facts K mg :=
    { c := ⟨C_ShareError, C_BadTable, C_BadRooms, C_BadRent, C_NotBest, C_NoDeal, 0⟩
      b_ValueError := PySem.W.mg_none_of X G z_ValueError
      b_all := PySem.W.mg_none_of X G z_all
      b_bool := PySem.W.mg_none_of X G z_bool
      b_int := PySem.W.mg_none_of X G z_int
      b_isinstance := PySem.W.mg_none_of X G z_isinstance
      b_len := PySem.W.mg_none_of X G z_len
      b_list := PySem.W.mg_none_of X G z_list
      b_max := PySem.W.mg_none_of X G z_max
      b_range := PySem.W.mg_none_of X G z_range
      b_str := PySem.W.mg_none_of X G z_str
      b_tuple := PySem.W.mg_none_of X G z_tuple
      k_MOST_FIGURES := ⟨_, PySem.W.mg_of X G c_MOST_FIGURES⟩
      k_MOST_LODGERS := ⟨_, PySem.W.mg_of X G c_MOST_LODGERS⟩
      x_BadRent := ⟨PySem.W.mg_of X G g_BadRent, k_BadRent, e_BadRent, s_BadRent, t_BadRent⟩
      x_BadRooms := ⟨PySem.W.mg_of X G g_BadRooms, k_BadRooms, e_BadRooms, s_BadRooms, t_BadRooms⟩
      x_BadTable := ⟨PySem.W.mg_of X G g_BadTable, k_BadTable, e_BadTable, s_BadTable, t_BadTable⟩
      x_NoDeal := ⟨PySem.W.mg_of X G g_NoDeal, k_NoDeal, e_NoDeal, s_NoDeal, t_NoDeal⟩
      x_NotBest := ⟨PySem.W.mg_of X G g_NotBest, k_NotBest, e_NotBest, s_NotBest, t_NotBest⟩
      x_ShareError := ⟨PySem.W.mg_of X G g_ShareError, k_ShareError, e_ShareError, s_ShareError, t_ShareError⟩
      tf_law_refused_k12 := ⟨⟨xg_NoDeal, xk_NoDeal, s_NoDeal, xd_NoDeal, xa_NoDeal, xn, xt, xm_NoDeal⟩, (tf_cons (PySem.W.exm_ref s_ShareError xd_ShareError t_ShareError su_nd_sh) (tf_cons (PySem.W.exm_ref s_NoDeal xd_NoDeal t_NoDeal su_nd_nd) tf_nil)), (tf_cons (kit_own su_nd_nd su_nd_nd xd_NoDeal t_NoDeal) (tf_cons (kit_own su_nd_nd su_nd_bt xd_BadTable t_BadTable) (tf_cons (kit_own su_nd_nd su_nd_br xd_BadRooms t_BadRooms) (tf_cons (kit_own su_nd_nd su_nd_be xd_BadRent t_BadRent) (tf_cons (kit_own su_nd_nd su_nd_nb xd_NotBest t_NotBest) (tf_cons (kit_ve su_nd_VE) tf_nil))))))⟩
      law_rooms_by := ⟨f_law_rooms_by, _, fun_mk (st := s_law_rooms_by) l_law_rooms_by d_law_rooms_by p_law_rooms_by, PySem.W.mg_of X G a_law_rooms_by, (fun_mk (st := s_law_rooms_by) l_law_rooms_by d_law_rooms_by p_law_rooms_by).binds fun _ _ _ _ _ _ us hl => match us, hl with | [_, _], _ => rfl⟩
      law_cell_at := ⟨f_law_cell_at, _, fun_mk (st := s_law_cell_at) l_law_cell_at d_law_cell_at p_law_cell_at, PySem.W.mg_of X G a_law_cell_at, (fun_mk (st := s_law_cell_at) l_law_cell_at d_law_cell_at p_law_cell_at).binds fun _ _ _ _ _ _ us hl => match us, hl with | [_, _], _ => rfl⟩
      law_part_by_k12 := ⟨f_law_part_by_k12, _, fun_mk (st := s_law_part_by_k12) l_law_part_by_k12 d_law_part_by_k12 p_law_part_by_k12, PySem.W.mg_of X G a_law_part_by_k12, (fun_mk (st := s_law_part_by_k12) l_law_part_by_k12 d_law_part_by_k12 p_law_part_by_k12).binds fun _ _ _ _ _ _ us hl => match us, hl with | [_], _ => rfl⟩
      law_rows_by := ⟨f_law_rows_by, _, fun_mk (st := s_law_rows_by) l_law_rows_by d_law_rows_by p_law_rows_by, PySem.W.mg_of X G a_law_rows_by, (fun_mk (st := s_law_rows_by) l_law_rows_by d_law_rows_by p_law_rows_by).binds fun _ _ _ _ _ _ us hl => match us, hl with | [_, _], _ => rfl⟩
      law_sign_by := ⟨f_law_sign_by, _, fun_mk (st := s_law_sign_by) l_law_sign_by d_law_sign_by p_law_sign_by, PySem.W.mg_of X G a_law_sign_by, (fun_mk (st := s_law_sign_by) l_law_sign_by d_law_sign_by p_law_sign_by).binds fun _ _ _ _ _ _ us hl => match us, hl with | [_], _ => rfl⟩
      law_text_by := ⟨f_law_text_by, _, fun_mk (st := s_law_text_by) l_law_text_by d_law_text_by p_law_text_by, PySem.W.mg_of X G a_law_text_by, (fun_mk (st := s_law_text_by) l_law_text_by d_law_text_by p_law_text_by).binds fun _ _ _ _ _ _ us hl => match us, hl with | [_], _ => rfl⟩
      law_number := ⟨f_law_number, _, fun_mk (st := s_law_number) l_law_number d_law_number p_law_number, PySem.W.mg_of X G a_law_number, (fun_mk (st := s_law_number) l_law_number d_law_number p_law_number).binds fun _ _ _ _ _ _ us hl => match us, hl with | [_], _ => rfl⟩
      law_deal := ⟨f_law_deal, _, fun_mk (st := s_law_deal) l_law_deal d_law_deal p_law_deal, PySem.W.mg_of X G a_law_deal, (fun_mk (st := s_law_deal) l_law_deal d_law_deal p_law_deal).binds fun _ _ _ _ _ _ us hl => match us, hl with | [_], _ => rfl⟩
      is_whole := ⟨f_is_whole, _, fun_mk (st := s_is_whole) l_is_whole d_is_whole p_is_whole, PySem.W.mg_of X G a_is_whole, (fun_mk (st := s_is_whole) l_is_whole d_is_whole p_is_whole).binds fun _ _ _ _ _ _ us hl => match us, hl with | [_], _ => rfl⟩
      are_places := ⟨f_are_places, _, fun_mk (st := s_are_places) l_are_places d_are_places p_are_places, PySem.W.mg_of X G a_are_places, (fun_mk (st := s_are_places) l_are_places d_are_places p_are_places).binds fun _ _ _ _ _ _ us hl => match us, hl with | [_, _], _ => rfl⟩
      number_in := ⟨f_number_in, _, fun_mk (st := s_number_in) l_number_in d_number_in p_number_in, PySem.W.mg_of X G a_number_in, (fun_mk (st := s_number_in) l_number_in d_number_in p_number_in).binds fun _ _ _ _ _ _ us hl => match us, hl with | [_, _], _ => rfl⟩
      read_row := ⟨f_read_row, _, fun_mk (st := s_read_row) l_read_row d_read_row p_read_row, PySem.W.mg_of X G a_read_row, (fun_mk (st := s_read_row) l_read_row d_read_row p_read_row).binds fun _ _ _ _ _ _ us hl => match us, hl with | [_, _, _], _ => rfl⟩
      read := ⟨f_read, _, fun_mk (st := s_read) l_read d_read p_read, PySem.W.mg_of X G a_read, (fun_mk (st := s_read) l_read d_read p_read).binds fun _ _ _ _ _ _ us hl => match us, hl with | [_], _ => rfl⟩
      law_refused_k12 := ⟨f_law_refused_k12, _, fun_mk (st := s_law_refused_k12) l_law_refused_k12 d_law_refused_k12 p_law_refused_k12, PySem.W.mg_of X G a_law_refused_k12, (fun_mk (st := s_law_refused_k12) l_law_refused_k12 d_law_refused_k12 p_law_refused_k12).binds fun _ _ _ _ _ _ us hl => match us, hl with | [_, _], _ => rfl⟩
      law_whole_row := ⟨f_law_whole_row, _, fun_mk (st := s_law_whole_row) l_law_whole_row d_law_whole_row p_law_whole_row, PySem.W.mg_of X G a_law_whole_row, (fun_mk (st := s_law_whole_row) l_law_whole_row d_law_whole_row p_law_whole_row).binds fun _ _ _ _ _ _ us hl => match us, hl with | [_, _], _ => rfl⟩
      law_k12 := ⟨fa, _, fun_mk (st := s_law_k12) l_law_k12 d_law_k12 p_law_k12, PySem.W.mg_of X G a_law_k12, (fun_mk (st := s_law_k12) l_law_k12 d_law_k12 p_law_k12).binds fun _ _ _ _ _ _ us hl => match us, hl with | [_], _ => rfl⟩ }
  exact ⟨_, fun s v => .of_eq rfl, fun base _ _ => ok_law_k12 T⟩
theorem walk {l : PySem.W.OpenLaw} {q : Program} {loose : List Str} {XP : (Str → Option Value) → Heap → Prop} {YP : World → Heap → Prop} {d : DefRec} {K : Params → PySem.W.Frag} (hn : l.most = some 63) (hdf : d.params.defaults = [])
    (hY : ∀ (w : World) (h : Heap), YP w h → (K w.params).In h)
    (F : ∀ (w : World) (mg : Str → Option Value) (fa : Addr) (h : Heap), (K w.params).In h → h.Ns mainGlobals mg → mg d.name = some (.ref fa) →
      ∃ fd : FuncData, (∀ (s : Shared) (u : Value), BindsTo s fd ⟨[u], []⟩ [("_law_script", u)]) ∧ ∀ base : Heap, (K w.params).In base → base.Ns mainGlobals mg → FnOk l.prog w (K w.params) mg base (L2.CX l.prog w) 5 fa fd ["_law_script"] (spOf (K w.params) (S_law_k12 ⟨0, 0, 0, 0, 0, 0, 0⟩))) :
    PySem.W.WalkO q loose XP YP l.row.toRowW d [] (fun f vs => PySem.call f vs) :=
  L2.walk_of (n := 63) (k := 5) (x := "_law_script") (CX := fun w => L2.CX l.prog w) (sp := fun w => spOf (K w.params) (S_law_k12 ⟨0, 0, 0, 0, 0, 0, 0⟩)) hn (by decide) hdf ⟨rfl, by decide, by decide⟩ hY F (fun _ _ a ns hl _ hS => law_sp hS ⟨ns, rfl, hl, rfl⟩) fun _ _ _ _ _ z => no_cx z
end D

open PySem PySem.W PyProof.Rows in
set_option maxRecDepth 100000 in
set_option maxHeartbeats 0 in
theorem PySem.Challenge.cw_roomshare_k12_read_holds : PySem.Challenge.rw_roomshare_k12_read.Holds := by
  w_on; o_law; k_head; (case hw => w_witness2)
  k_fill
  refine D.walk (l := PySem.Challenge.rw_roomshare_k12_read) rfl rfl (fun w h Y => PySem.W.kIn_of Y) ?F
  case F =>
    intro w mg fa h KX G hmg
    refine' D.all_mk KX G hmg ?z_ValueError ?z_all ?z_bool ?z_int ?z_isinstance ?z_len ?z_list ?z_max ?z_range ?z_str ?z_tuple ?c_MOST_FIGURES ?c_MOST_LODGERS ?g_BadRent ?k_BadRent ?e_BadRent ?s_BadRent ?t_BadRent ?g_BadRooms ?k_BadRooms ?e_BadRooms ?s_BadRooms ?t_BadRooms ?g_BadTable ?k_BadTable ?e_BadTable ?s_BadTable ?t_BadTable ?g_NoDeal ?k_NoDeal ?e_NoDeal ?s_NoDeal ?t_NoDeal ?g_NotBest ?k_NotBest ?e_NotBest ?s_NotBest ?t_NotBest ?g_ShareError ?k_ShareError ?e_ShareError ?s_ShareError ?t_ShareError ?a_law_rooms_by ?l_law_rooms_by ?d_law_rooms_by ?p_law_rooms_by ?a_law_cell_at ?l_law_cell_at ?d_law_cell_at ?p_law_cell_at ?a_law_part_by_k12 ?l_law_part_by_k12 ?d_law_part_by_k12 ?p_law_part_by_k12 ?a_law_rows_by ?l_law_rows_by ?d_law_rows_by ?p_law_rows_by ?a_law_sign_by ?l_law_sign_by ?d_law_sign_by ?p_law_sign_by ?a_law_text_by ?l_law_text_by ?d_law_text_by ?p_law_text_by ?a_law_number ?l_law_number ?d_law_number ?p_law_number ?a_law_deal ?l_law_deal ?d_law_deal ?p_law_deal ?a_is_whole ?l_is_whole ?d_is_whole ?p_is_whole ?a_are_places ?l_are_places ?d_are_places ?p_are_places ?a_number_in ?l_number_in ?d_number_in ?p_number_in ?a_read_row ?l_read_row ?d_read_row ?p_read_row ?a_read ?l_read ?d_read ?p_read ?a_law_refused_k12 ?l_law_refused_k12 ?d_law_refused_k12 ?p_law_refused_k12 ?a_law_whole_row ?l_law_whole_row ?d_law_whole_row ?p_law_whole_row ?a_law_k12 ?l_law_k12 ?d_law_k12 ?p_law_k12 ?xg_NoDeal ?xk_NoDeal ?xa_NoDeal ?xm_NoDeal ?xd_BadRent ?xd_BadRooms ?xd_BadTable ?xd_NotBest ?xd_NoDeal ?xd_ShareError ?xn ?xt ?su_nd_VE ?su_nd_be ?su_nd_br ?su_nd_bt ?su_nd_nb ?su_nd_nd ?su_nd_sh
    (case z_ValueError => k_is)
    (case z_all => k_is)
    (case z_bool => k_is)
    (case z_int => k_is)
    (case z_isinstance => k_is)
    (case z_len => k_is)
    (case z_list => k_is)
    (case z_max => k_is)
    (case z_range => k_is)
    (case z_str => k_is)
    (case z_tuple => k_is)
    (case c_MOST_FIGURES => k_is)
    (case c_MOST_LODGERS => k_is)
    (case g_BadRent => k_is)
    (case k_BadRent => k_is)
    (case e_BadRent => k_exc)
    (case s_BadRent => k_is)
    (case t_BadRent => k_is)
    (case g_BadRooms => k_is)
    (case k_BadRooms => k_is)
    (case e_BadRooms => k_exc)
    (case s_BadRooms => k_is)
    (case t_BadRooms => k_is)
    (case g_BadTable => k_is)
    (case k_BadTable => k_is)
    (case e_BadTable => k_exc)
    (case s_BadTable => k_is)
    (case t_BadTable => k_is)
    (case g_NoDeal => k_is)
    (case k_NoDeal => k_is)
    (case e_NoDeal => k_exc)
    (case s_NoDeal => k_is)
    (case t_NoDeal => k_is)
    (case g_NotBest => k_is)
    (case k_NotBest => k_is)
    (case e_NotBest => k_exc)
    (case s_NotBest => k_is)
    (case t_NotBest => k_is)
    (case g_ShareError => k_is)
    (case k_ShareError => k_is)
    (case e_ShareError => k_exc)
    (case s_ShareError => k_is)
    (case t_ShareError => k_is)
    (case a_law_rooms_by => k_is)
    (case l_law_rooms_by => k_is)
    (case d_law_rooms_by => k_is)
    (case p_law_rooms_by => k_is)
    (case a_law_cell_at => k_is)
    (case l_law_cell_at => k_is)
    (case d_law_cell_at => k_is)
    (case p_law_cell_at => k_is)
    (case a_law_part_by_k12 => k_is)
    (case l_law_part_by_k12 => k_is)
    (case d_law_part_by_k12 => k_is)
    (case p_law_part_by_k12 => k_is)
    (case a_law_rows_by => k_is)
    (case l_law_rows_by => k_is)
    (case d_law_rows_by => k_is)
    (case p_law_rows_by => k_is)
    (case a_law_sign_by => k_is)
    (case l_law_sign_by => k_is)
    (case d_law_sign_by => k_is)
    (case p_law_sign_by => k_is)
    (case a_law_text_by => k_is)
    (case l_law_text_by => k_is)
    (case d_law_text_by => k_is)
    (case p_law_text_by => k_is)
    (case a_law_number => k_is)
    (case l_law_number => k_is)
    (case d_law_number => k_is)
    (case p_law_number => k_is)
    (case a_law_deal => k_is)
    (case l_law_deal => k_is)
    (case d_law_deal => k_is)
    (case p_law_deal => k_is)
    (case a_is_whole => k_is)
    (case l_is_whole => k_is)
    (case d_is_whole => k_is)
    (case p_is_whole => k_is)
    (case a_are_places => k_is)
    (case l_are_places => k_is)
    (case d_are_places => k_is)
    (case p_are_places => k_is)
    (case a_number_in => k_is)
    (case l_number_in => k_is)
    (case d_number_in => k_is)
    (case p_number_in => k_is)
    (case a_read_row => k_is)
    (case l_read_row => k_is)
    (case d_read_row => k_is)
    (case p_read_row => k_is)
    (case a_read => k_is)
    (case l_read => k_is)
    (case d_read => k_is)
    (case p_read => k_is)
    (case a_law_refused_k12 => k_is)
    (case l_law_refused_k12 => k_is)
    (case d_law_refused_k12 => k_is)
    (case p_law_refused_k12 => k_is)
    (case a_law_whole_row => k_is)
    (case l_law_whole_row => k_is)
    (case d_law_whole_row => k_is)
    (case p_law_whole_row => k_is)
    (case a_law_k12 => k_is)
    (case l_law_k12 => k_is)
    (case d_law_k12 => k_is)
    (case p_law_k12 => k_is)
    (case xg_NoDeal => k_is)
    (case xk_NoDeal => k_is)
    (case xa_NoDeal => k_is)
    (case xm_NoDeal => k_is)
    (case xd_BadRent => k_is)
    (case xd_BadRooms => k_is)
    (case xd_BadTable => k_is)
    (case xd_NotBest => k_is)
    (case xd_NoDeal => k_is)
    (case xd_ShareError => k_is)
    (case xn => k_is)
    (case xt => k_is)
    (case su_nd_VE => k_is)
    (case su_nd_be => k_is)
    (case su_nd_br => k_is)
    (case su_nd_bt => k_is)
    (case su_nd_nb => k_is)
    (case su_nd_nd => k_is)
    (case su_nd_sh => k_is)
#print axioms PySem.Challenge.cw_roomshare_k12_read_holds


