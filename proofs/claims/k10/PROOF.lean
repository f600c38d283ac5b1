import PyProof.Rows.All
import Wide.All
import OpenK.AllK
import Wide.FinOn
import HandS.ForMost
import HandS.ForExc
import HandS.IsInst
import HandS.ExcIs
import HandS.TryMany
import HandS.TryOnly
import HandS.Deep
import HandS.EndBits
import HandS.Conv
import HandS.FStr
import PySem.Challenge.RW_roomshare_k10_whole_house
set_option Elab.async false
set_option linter.all false
set_option maxRecDepth 100000
set_option maxHeartbeats 1000000
/-! The layer of pure data over HandS. -/
namespace PD
open PySem L2

/-! ### heaps: G, the part that is known as data; H, all that is tracked -/
structure Ext (G H G' H' : Hp) : Prop where
  hh : Same H H'
  gg : Same G G'
  gh : Same G' H'
  fr : ∀ a, G a = none → H a ≠ none → G' a = none
theorem Ext.refl {G H : Hp} (h : Same G H) : Ext G H G H := ⟨Same.refl H, Same.refl G, h, fun _ q _ => q⟩
theorem some_up {H H' : Hp} (e : Same H H') {a : Addr} (h : H a ≠ none) : H' a ≠ none := by
  cases q : H a with
  | none => exact absurd q h
  | some o => rw [e a o q]; exact fun z => nomatch z
theorem Ext.trans {G H G1 H1 G2 H2 : Hp} (a : Ext G H G1 H1) (b : Ext G1 H1 G2 H2) : Ext G H G2 H2 :=
  ⟨a.hh.trans b.hh, a.gg.trans b.gg, b.gh, fun x q n => b.fr x (a.fr x q n) (some_up a.hh n)⟩
theorem same_new {H : Hp} {p : Addr} {o : HO} (h : H p = none) : Same H (upd H p o) := fun b x e => by
  rw [upd_ne (ne_of_none e h)]
  exact e
/-- a new object is laid, and it is data from now on -/
theorem Ext.new {G H : Hp} (h : Same G H) {p : Addr} {o : HO} (hp : H p = none) : Ext G H (upd G p o) (upd H p o) := by
  have gp : G p = none := h.free hp
  refine ⟨same_new hp, same_new gp, fun b x e => ?_, fun a q n => ?_⟩
  · by_cases z : b = p
    · subst z; rw [upd_same] at e ⊢; exact e
    · rw [upd_ne z] at e ⊢; exact h b x e
  · have z : a ≠ p := fun z => n (by rw [z]; exact hp)
    rw [upd_ne z]; exact q
/-- a new object is laid, its own -/
theorem Ext.own {G H : Hp} (h : Same G H) {p : Addr} {o : HO} (hp : H p = none) : Ext G H G (upd H p o) :=
  ⟨same_new hp, Same.refl G, fun b x e => same_new hp b x (h b x e), fun _ q _ => q⟩
/-- the heap grew by untold things -/
theorem Ext.grow {G H H' : Hp} (h : Same G H) (e : Same H H') : Ext G H G H' := ⟨e, Same.refl G, h.trans e, fun _ q _ => q⟩

/-! ### data -/
/-- the script, which is read alone -/
abbrev scr (ns : List Int) : PyData := .dict [(.none, .list (ns.map .int))]
mutual
inductive At (K : PySem.W.Frag) (G : Hp) : V → PyData → Prop
  | non : At K G .non .none
  | bl (b : Bool) : At K G (.bl b) (.bool b)
  | int (i : Int) : At K G (.int i) (.int i)
  | str (x : Str) : At K G (.str x) (.str x)
  | lst {a : Addr} {xs : List V} {ds : List PyData} : G a = some (.lst xs) → AtAll K G xs ds → At K G (.ref a) (.list ds)
  | tup {a : Addr} {xs : List V} {ds : List PyData} : G a = some (.tup xs) → AtAll K G xs ds → At K G (.ref a) (.tuple ds)
  | dic {a : Addr} : G a = some (.dK []) → At K G (.ref a) (.dict [])
  | scr {a : Addr} {xs : List V} {ds : List PyData} : SqL K G a xs → AtAll K G xs ds → At K G (.ref a) (.dict [(.none, .list ds)])
inductive AtAll (K : PySem.W.Frag) (G : Hp) : List V → List PyData → Prop
  | nil : AtAll K G [] []
  | cons {v : V} {vs : List V} {d : PyData} {ds : List PyData} : At K G v d → AtAll K G vs ds → AtAll K G (v :: vs) (d :: ds)
end
section
variable {K : PySem.W.Frag} {G G' H H' : Hp}
mutual
theorem At.mono (e : Same G G') : ∀ (d : PyData) (v : V), At K G v d → At K G' v d
  | .none, _, h => by cases h; exact .non
  | .bool b, _, h => by cases h; exact .bl b
  | .int i, _, h => by cases h; exact .int i
  | .str x, _, h => by cases h; exact .str x
  | .list ds, _, h => by
    cases h with
    | lst h1 h2 => exact .lst (e _ _ h1) (AtAll.mono e ds _ h2)
  | .tuple ds, _, h => by
    cases h with
    | tup h1 h2 => exact .tup (e _ _ h1) (AtAll.mono e ds _ h2)
  | .dict kvs, _, h => by
    cases h with
    | dic h1 => exact .dic (e _ _ h1)
    | scr h1 h2 => exact .scr (e.seq h1) (AtAll.mono e _ _ h2)
theorem AtAll.mono (e : Same G G') : ∀ (ds : List PyData) (vs : List V), AtAll K G vs ds → AtAll K G' vs ds
  | [], _, h => by cases h; exact .nil
  | d :: ds, _, h => by
    cases h with
    | cons h1 h2 => exact .cons (At.mono e d _ h1) (AtAll.mono e ds _ h2)
end
theorem At.up {d : PyData} {v : V} (h : At K G v d) (e : Same G G') : At K G' v d := At.mono e d v h
theorem AtAll.up {ds : List PyData} {vs : List V} (h : AtAll K G vs ds) (e : Same G G') : AtAll K G' vs ds := AtAll.mono e ds vs h
mutual
theorem At.dp : ∀ (d : PyData) (v : V), d.canLay0 = true → At K G v d → Dp K G v d
  | .none, _, _, h => by cases h; exact .non
  | .bool b, _, _, h => by cases h; exact .bl b
  | .int i, _, _, h => by cases h; exact .int i
  | .str x, _, _, h => by cases h; exact .str x
  | .list ds, _, c, h => by
    cases h with
    | lst h1 h2 => exact .lst (SqL.of h1) (AtAll.dp ds _ (by simpa [PyData.canLay0] using c) h2)
  | .tuple ds, _, c, h => by
    cases h with
    | tup h1 h2 => exact .tup (SqT.of h1) (AtAll.dp ds _ (by simpa [PyData.canLay0] using c) h2)
  | .dict kvs, _, c, _ => by simp [PyData.canLay0] at c
theorem AtAll.dp : ∀ (ds : List PyData) (vs : List V), PyData.canLayAll0 ds = true → AtAll K G vs ds → DpAll K G vs ds
  | [], _, _, h => by cases h; exact .nil
  | d :: ds, _, c, h => by
    cases h with
    | cons h1 h2 =>
      have c' : d.canLay0 = true ∧ PyData.canLayAll0 ds = true := by simpa [PyData.canLayAll0] using c
      exact .cons (At.dp d _ c'.1 h1) (AtAll.dp ds _ c'.2 h2)
end
theorem AtAll.length {vs : List V} {ds : List PyData} : AtAll K G vs ds → vs.length = ds.length := by
  induction ds generalizing vs with
  | nil => intro h; cases h; rfl
  | cons d ds ih => intro h; cases h with | cons _ h2 => simp [ih h2]
theorem AtAll.get {vs : List V} {ds : List PyData} {i : Nat} {d : PyData} : AtAll K G vs ds → ds[i]? = some d → ∃ v, vs[i]? = some v ∧ At K G v d := by
  induction ds generalizing vs i with
  | nil => intro _ e; simp at e
  | cons d0 ds ih =>
    intro h e
    cases h with
    | cons h1 h2 =>
      cases i with
      | zero => simp at e; subst e; exact ⟨_, rfl, h1⟩
      | succ i => simp at e; obtain ⟨v, q, a⟩ := ih h2 e; exact ⟨v, by simpa using q, a⟩
theorem AtAll.getV {vs : List V} {ds : List PyData} {i : Nat} {v : V} : AtAll K G vs ds → vs[i]? = some v → ∃ d, ds[i]? = some d ∧ At K G v d := by
  intro h e
  have hl := h.length
  have hi : i < ds.length := by rw [← hl]; exact (List.getElem?_eq_some_iff.mp e).1
  obtain ⟨v', q, a⟩ := h.get (List.getElem?_eq_getElem hi)
  rw [e] at q; cases q
  exact ⟨_, List.getElem?_eq_getElem hi, a⟩
theorem AtAll.app {vs ws : List V} {ds es : List PyData} : AtAll K G vs ds → AtAll K G ws es → AtAll K G (vs ++ ws) (ds ++ es) := by
  induction ds generalizing vs with
  | nil => intro h q; cases h; exact q
  | cons d ds ih => intro h q; cases h with | cons h1 h2 => exact .cons h1 (ih h2 q)
theorem AtAll.one {v : V} {d : PyData} (h : At K G v d) : AtAll K G [v] [d] := .cons h .nil
theorem AtAll.snoc {vs : List V} {ds : List PyData} {v : V} {d : PyData} (h : AtAll K G vs ds) (q : At K G v d) : AtAll K G (vs ++ [v]) (ds ++ [d]) := h.app (.one q)
theorem AtAll.drop {vs : List V} {ds : List PyData} : ∀ (n : Nat), AtAll K G vs ds → AtAll K G (vs.drop n) (ds.drop n) := by
  intro n
  induction n generalizing vs ds with
  | zero => intro h; exact h
  | succ n ih => intro h; cases h with | nil => exact .nil | cons _ h2 => exact ih h2
theorem AtAll.take {vs : List V} {ds : List PyData} : ∀ (n : Nat), AtAll K G vs ds → AtAll K G (vs.take n) (ds.take n) := by
  intro n
  induction n generalizing vs ds with
  | zero => intro h; exact .nil
  | succ n ih => intro h; cases h with | nil => exact .nil | cons h1 h2 => exact .cons h1 (ih h2)
theorem AtAll.set {vs : List V} {ds : List PyData} {v : V} {d : PyData} (q : At K G v d) : ∀ (n : Nat), AtAll K G vs ds → AtAll K G (vs.set n v) (ds.set n d) := by
  intro n
  induction n generalizing vs ds with
  | zero => intro h; cases h with | nil => exact .nil | cons h1 h2 => exact .cons q h2
  | succ n ih => intro h; cases h with | nil => exact .nil | cons h1 h2 => exact .cons h1 (ih h2)
theorem AtAll.erase {vs : List V} {ds : List PyData} : ∀ (n : Nat), AtAll K G vs ds → AtAll K G (vs.eraseIdx n) (ds.eraseIdx n) := by
  intro n
  induction n generalizing vs ds with
  | zero => intro h; cases h with | nil => exact .nil | cons h1 h2 => exact h2
  | succ n ih => intro h; cases h with | nil => exact .nil | cons h1 h2 => exact .cons h1 (ih h2)
theorem AtAll.ints {ns : List Int} {vs : List V} (h : AtAll K G vs (ns.map .int)) : vs = ns.map V.int := by
  induction ns generalizing vs with
  | nil => cases h; rfl
  | cons n ns ih => cases h with | cons h1 h2 => cases h1; rw [ih h2]; rfl
theorem AtAll.bools {bs : List Bool} {vs : List V} (h : AtAll K G vs (bs.map .bool)) : vs = bs.map V.bl := by
  induction bs generalizing vs with
  | nil => cases h; rfl
  | cons n ns ih => cases h with | cons h1 h2 => cases h1; rw [ih h2]; rfl
theorem AtAll.strs {xs : List Str} {vs : List V} (h : AtAll K G vs (xs.map .str)) : vs = xs.map V.str := by
  induction xs generalizing vs with
  | nil => cases h; rfl
  | cons n ns ih => cases h with | cons h1 h2 => cases h1; rw [ih h2]; rfl
theorem atAll_ints (ns : List Int) : AtAll K G (ns.map V.int) (ns.map .int) := by
  induction ns with
  | nil => exact .nil
  | cons n ns ih => exact .cons (.int n) ih
theorem atAll_strs (xs : List Str) : AtAll K G (xs.map V.str) (xs.map .str) := by
  induction xs with
  | nil => exact .nil
  | cons n ns ih => exact .cons (.str n) ih
theorem At.scrI {ns : List Int} {v : V} (h : At K G v (PD.scr ns)) : ∃ a, v = .ref a ∧ SqL K G a (ns.map V.int) := by
  cases h with
  | scr h1 h2 => have e := h2.ints; subst e; exact ⟨_, rfl, h1⟩
theorem At.ofScr {ns : List Int} {a : Addr} (h : SqL K G a (ns.map V.int)) : At K G (.ref a) (PD.scr ns) := .scr h (atAll_ints ns)
/-- a datum that leans on no heap -/
def scal : PyData → Bool
  | .none => true
  | .bool _ => true
  | .int _ => true
  | .str _ => true
  | _ => false
theorem At.scal {d : PyData} {v : V} (s : scal d = true) (h : At K G v d) : At K G' v d := by
  cases h with
  | non => exact .non
  | bl b => exact .bl b
  | int i => exact .int i
  | str x => exact .str x
  | _ => simp [PD.scal] at s
end

/-- a house as a datum: its class, its rows, rent, rooms -/
abbrev hsD (C : Addr) (a b c : PyData) : PyData := .dict [(.int (.ofNat C), .list [a, b, c])]
inductive AtX (K : PySem.W.Frag) (G : Hp) : V → PyData → Prop
  | of {v : V} {d : PyData} : At K G v d → AtX K G v d
  | ins {x dx C : Addr} {v1 v2 v3 : V} {a b c : PyData} : G x = some (.ins C dx [("rows", v1), ("rent", v2), ("rooms", v3)]) → At K G v1 a → At K G v2 b → At K G v3 c → AtX K G (.ref x) (hsD C a b c)
def isIns : PyData → Bool
  | .dict [(.int _, _)] => true
  | _ => false
theorem AtX.up {K : PySem.W.Frag} {G G' : Hp} {v : V} {d : PyData} (h : AtX K G v d) (e : Same G G') : AtX K G' v d := by
  cases h with
  | of h => exact .of (h.up e)
  | ins h1 h2 h3 h4 => exact .ins (e _ _ h1) (h2.up e) (h3.up e) (h4.up e)
theorem AtX.at {K : PySem.W.Frag} {G : Hp} {v : V} {d : PyData} (h : AtX K G v d) (n : isIns d = false) : At K G v d := by
  cases h with
  | of h => exact h
  | ins h1 h2 h3 h4 => cases n

/-! ### what is known of the slots -/
inductive Sl
  /-- nothing -/
  | no
  /-- it holds this datum -/
  | da (d : PyData)
  /-- it holds a list of its own with these items -/
  | ow (ds : List PyData)
  /-- it holds a dict of its own with these keys -/
  | od (ks : List Int)
  /-- it holds that very value, which is that datum, or of which nothing is said here -/
  | fx (v : V) (o : Option PyData)
/-- it holds that very object -/
abbrev Sl.rf (a : Addr) : Sl := .fx (.ref a) none
abbrev Env := List Sl
structure Sat (K : PySem.W.Frag) (H0 G H : Hp) (σ : St) (Γ : Env) : Prop where
  len : σ.length = Γ.length
  da : ∀ (i : Nat) (d : PyData), Γ[i]? = some (.da d) → ∃ v, σ[i]? = some (some v) ∧ At K G v d
  ow : ∀ (i : Nat) (ds : List PyData), Γ[i]? = some (.ow ds) → ∃ p vs, σ[i]? = some (some (.ref p)) ∧ H p = some (.lst vs) ∧ G p = none ∧ H0 p = none ∧ AtAll K G vs ds
  ne : ∀ (i j : Nat) (di dj : List PyData) (p : Addr), Γ[i]? = some (.ow di) → Γ[j]? = some (.ow dj) → σ[i]? = some (some (.ref p)) → σ[j]? = some (some (.ref p)) → i = j
  od : ∀ (i : Nat) (ks : List Int), Γ[i]? = some (.od ks) → ∃ p kvs, σ[i]? = some (some (.ref p)) ∧ H p = some (.dK kvs) ∧ G p = none ∧ H0 p = none ∧ kvs.length ≤ ks.length ∧ ∀ k : Int, (valV kvs (Sum.inl k)).isSome = decide (k ∈ ks)
  nd : ∀ (i j : Nat) (di dj : List Int) (p : Addr), Γ[i]? = some (.od di) → Γ[j]? = some (.od dj) → σ[i]? = some (some (.ref p)) → σ[j]? = some (some (.ref p)) → i = j
  fx : ∀ (i : Nat) (v : V) (o : Option PyData), Γ[i]? = some (.fx v o) → σ[i]? = some (some v) ∧ ∀ d, o = some d → AtX K G v d
section
variable {K : PySem.W.Frag} {H0 G G' H H' : Hp} {σ : St} {Γ : Env}
theorem Sat.rf (s : Sat K H0 G H σ Γ) (i : Nat) (a : Addr) (q : Γ[i]? = some (.rf a)) : σ[i]? = some (some (.ref a)) := (s.fx i _ _ q).1
theorem Sat.ext (s : Sat K H0 G H σ Γ) (e : Ext G H G' H') : Sat K H0 G' H' σ Γ := by
  refine ⟨s.len, fun i d q => ?_, fun i ds q => ?_, s.ne, fun i ks q => ?_, s.nd, fun i v o q => ⟨(s.fx i v o q).1, fun d z => ((s.fx i v o q).2 d z).up e.gg⟩⟩
  · obtain ⟨v, h1, h2⟩ := s.da i d q
    exact ⟨v, h1, h2.up e.gg⟩
  · obtain ⟨p, vs, h1, h2, h3, h4, h5⟩ := s.ow i ds q
    exact ⟨p, vs, h1, e.hh _ _ h2, e.fr p h3 (by rw [h2]; exact fun z => nomatch z), h4, h5.up e.gg⟩
  · obtain ⟨p, vs, h1, h2, h3, h4, h5⟩ := s.od i ks q
    exact ⟨p, vs, h1, e.hh _ _ h2, e.fr p h3 (by rw [h2]; exact fun z => nomatch z), h4, h5⟩
/-- what a stored slot leaves of the references -/
theorem Sat.rfSet (s : Sat K H0 G H σ Γ) {i : Nat} {o : Option V} {x : Sl} (hx : ∀ v t, x ≠ .fx v t) (j : Nat) (v : V) (t : Option PyData) (q : (Γ.set i x)[j]? = some (.fx v t)) : (σ.set i o)[j]? = some (some v) ∧ ∀ d, t = some d → AtX K G v d := by
  by_cases z : i = j
  · subst z
    have hi : i < Γ.length := by have := (List.getElem?_eq_some_iff.mp q).1; simpa using this
    rw [List.getElem?_set_self hi] at q
    exact absurd (Option.some.inj q) (hx v t)
  · rw [List.getElem?_set_ne z] at q ⊢; exact s.fx j v t q
theorem Sat.rfSet' (s : Sat K H0 G H σ Γ) {i : Nat} {x : Sl} (hx : ∀ v t, x ≠ .fx v t) (j : Nat) (v : V) (t : Option PyData) (q : (Γ.set i x)[j]? = some (.fx v t)) : σ[j]? = some (some v) ∧ ∀ d, t = some d → AtX K G v d := by
  by_cases z : i = j
  · subst z
    have hi : i < Γ.length := by have := (List.getElem?_eq_some_iff.mp q).1; simpa using this
    rw [List.getElem?_set_self hi] at q
    exact absurd (Option.some.inj q) (hx v t)
  · rw [List.getElem?_set_ne z] at q; exact s.fx j v t q
/-- what a stored slot leaves of the dicts -/
theorem Sat.odSet (s : Sat K H0 G H σ Γ) {i : Nat} {o : Option V} {x : Sl} (hx : ∀ ks, x ≠ .od ks) : (∀ (j : Nat) (ks : List Int), (Γ.set i x)[j]? = some (.od ks) → ∃ p kvs, (σ.set i o)[j]? = some (some (.ref p)) ∧ H p = some (.dK kvs) ∧ G p = none ∧ H0 p = none ∧ kvs.length ≤ ks.length ∧ ∀ k : Int, (valV kvs (Sum.inl k)).isSome = decide (k ∈ ks)) ∧
    (∀ (j k : Nat) (di dj : List Int) (p : Addr), (Γ.set i x)[j]? = some (.od di) → (Γ.set i x)[k]? = some (.od dj) → (σ.set i o)[j]? = some (some (.ref p)) → (σ.set i o)[k]? = some (some (.ref p)) → j = k) := by
  have f : ∀ {j : Nat} {ks : List Int}, (Γ.set i x)[j]? = some (.od ks) → i ≠ j ∧ Γ[j]? = some (.od ks) := fun {j ks} q => by
    by_cases z : i = j
    · subst z
      have hi : i < Γ.length := by have := (List.getElem?_eq_some_iff.mp q).1; simpa using this
      rw [List.getElem?_set_self hi] at q
      exact absurd (Option.some.inj q) (hx ks)
    · rw [List.getElem?_set_ne z] at q; exact ⟨z, q⟩
  refine ⟨fun j ks q => ?_, fun j k di dj p q1 q2 q3 q4 => ?_⟩
  · obtain ⟨n, q'⟩ := f q
    rw [List.getElem?_set_ne n]
    exact s.od j ks q'
  · obtain ⟨n1, r1⟩ := f q1
    obtain ⟨n2, r2⟩ := f q2
    rw [List.getElem?_set_ne n1] at q3
    rw [List.getElem?_set_ne n2] at q4
    exact s.nd j k di dj p r1 r2 q3 q4
/-- a slot is stored -/
theorem Sat.setD (s : Sat K H0 G H σ Γ) {i : Nat} {v : V} {d : PyData} (h : At K G v d) : Sat K H0 G H (σ.set i (some v)) (Γ.set i (.da d)) := by
  have od := s.odSet (i := i) (o := some v) (x := .da d) (fun _ z => nomatch z)
  refine ⟨by simp [s.len], fun j e q => ?_, fun j ds q => ?_, fun j k dj dk p q1 q2 q3 q4 => ?_, od.1, od.2, s.rfSet (fun _ _ z => nomatch z)⟩
  · by_cases z : i = j
    · subst z
      have hi : i < Γ.length := by have := (List.getElem?_eq_some_iff.mp q).1; simpa using this
      rw [List.getElem?_set_self hi] at q
      cases q
      exact ⟨v, by rw [List.getElem?_set_self (by rw [s.len]; exact hi)], h⟩
    · rw [List.getElem?_set_ne z] at q ⊢
      exact s.da j e q
  · by_cases z : i = j
    · subst z
      have hi : i < Γ.length := by have := (List.getElem?_eq_some_iff.mp q).1; simpa using this
      rw [List.getElem?_set_self hi] at q
      cases q
    · rw [List.getElem?_set_ne z] at q ⊢
      exact s.ow j ds q
  · have n1 : i ≠ j := fun z => by
      subst z
      have hi : i < Γ.length := by have := (List.getElem?_eq_some_iff.mp q1).1; simpa using this
      rw [List.getElem?_set_self hi] at q1; cases q1
    have n2 : i ≠ k := fun z => by
      subst z
      have hi : i < Γ.length := by have := (List.getElem?_eq_some_iff.mp q2).1; simpa using this
      rw [List.getElem?_set_self hi] at q2; cases q2
    rw [List.getElem?_set_ne n1] at q1 q3
    rw [List.getElem?_set_ne n2] at q2 q4
    exact s.ne j k dj dk p q1 q2 q3 q4
/-- a slot is stored that nothing is said of -/
theorem Sat.setN (s : Sat K H0 G H σ Γ) {i : Nat} {o : Option V} : Sat K H0 G H (σ.set i o) (Γ.set i .no) := by
  have od := s.odSet (i := i) (o := o) (x := .no) (fun _ z => nomatch z)
  refine ⟨by simp [s.len], fun j e q => ?_, fun j ds q => ?_, fun j k dj dk p q1 q2 q3 q4 => ?_, od.1, od.2, s.rfSet (fun _ _ z => nomatch z)⟩
  · by_cases z : i = j
    · subst z
      have hi : i < Γ.length := by have := (List.getElem?_eq_some_iff.mp q).1; simpa using this
      rw [List.getElem?_set_self hi] at q
      cases q
    · rw [List.getElem?_set_ne z] at q ⊢
      exact s.da j e q
  · by_cases z : i = j
    · subst z
      have hi : i < Γ.length := by have := (List.getElem?_eq_some_iff.mp q).1; simpa using this
      rw [List.getElem?_set_self hi] at q
      cases q
    · rw [List.getElem?_set_ne z] at q ⊢
      exact s.ow j ds q
  · have n1 : i ≠ j := fun z => by
      subst z
      have hi : i < Γ.length := by have := (List.getElem?_eq_some_iff.mp q1).1; simpa using this
      rw [List.getElem?_set_self hi] at q1; cases q1
    have n2 : i ≠ k := fun z => by
      subst z
      have hi : i < Γ.length := by have := (List.getElem?_eq_some_iff.mp q2).1; simpa using this
      rw [List.getElem?_set_self hi] at q2; cases q2
    rw [List.getElem?_set_ne n1] at q1 q3
    rw [List.getElem?_set_ne n2] at q2 q4
    exact s.ne j k dj dk p q1 q2 q3 q4
/-- a slot comes to hold a list of its own, of which no slot knew -/
theorem Sat.setO (s : Sat K H0 G H σ Γ) {i : Nat} {p : Addr} {vs : List V} {ds : List PyData} (hp : H p = some (.lst vs)) (gp : G p = none) (h0 : H0 p = none) (ha : AtAll K G vs ds)
    (new : ∀ (j : Nat) (dj : List PyData), Γ[j]? = some (.ow dj) → σ[j]? ≠ some (some (.ref p))) : Sat K H0 G H (σ.set i (some (.ref p))) (Γ.set i (.ow ds)) := by
  have at_i : ∀ {x : Sl}, (Γ.set i (.ow ds))[i]? = some x → x = .ow ds ∧ i < Γ.length := fun {x} q => by
    have hi : i < Γ.length := by have := (List.getElem?_eq_some_iff.mp q).1; simpa using this
    rw [List.getElem?_set_self hi] at q
    exact ⟨(Option.some.inj q).symm, hi⟩
  have od := s.odSet (i := i) (o := some (.ref p)) (x := .ow ds) (fun _ z => nomatch z)
  refine ⟨by simp [s.len], fun j e q => ?_, fun j es q => ?_, fun j k dj dk b q1 q2 q3 q4 => ?_, od.1, od.2, s.rfSet (fun _ _ z => nomatch z)⟩
  · by_cases z : i = j
    · subst z; exact nomatch (at_i q).1
    · rw [List.getElem?_set_ne z] at q ⊢
      exact s.da j e q
  · by_cases z : i = j
    · subst z
      obtain ⟨e1, hi⟩ := at_i q
      cases e1
      exact ⟨p, vs, by rw [List.getElem?_set_self (by rw [s.len]; exact hi)], hp, gp, h0, ha⟩
    · rw [List.getElem?_set_ne z] at q ⊢
      exact s.ow j es q
  · by_cases z1 : i = j
    · by_cases z2 : i = k
      · rw [← z1, ← z2]
      · exfalso
        subst z1
        obtain ⟨_, hi⟩ := at_i q1
        rw [List.getElem?_set_self (by rw [s.len]; exact hi)] at q3
        cases q3
        rw [List.getElem?_set_ne z2] at q2 q4
        exact new k dk q2 q4
    · by_cases z2 : i = k
      · exfalso
        subst z2
        obtain ⟨_, hi⟩ := at_i q2
        rw [List.getElem?_set_self (by rw [s.len]; exact hi)] at q4
        cases q4
        rw [List.getElem?_set_ne z1] at q1 q3
        exact new j dj q1 q3
      · rw [List.getElem?_set_ne z1] at q1 q3
        rw [List.getElem?_set_ne z2] at q2 q4
        exact s.ne j k dj dk b q1 q2 q3 q4
/-- the list of slot i is written -/
theorem Sat.write (s : Sat K H0 G H σ Γ) {i : Nat} {p : Addr} {vs : List V} {ds es : List PyData} (hi : Γ[i]? = some (.ow ds)) (hs : σ[i]? = some (some (.ref p))) (ha : AtAll K G vs es) :
    Sat K H0 G (upd H p (.lst vs)) σ (Γ.set i (.ow es)) := by
  have hil : i < Γ.length := (List.getElem?_eq_some_iff.mp hi).1
  obtain ⟨p', vs', h1, h2, h3, h4, h5⟩ := s.ow i ds hi
  rw [hs] at h1; cases h1
  have fo : ∀ {j : Nat} {ks : List Int}, (Γ.set i (.ow es))[j]? = some (.od ks) → Γ[j]? = some (.od ks) := fun {j ks} q => by
    by_cases z : i = j
    · subst z; rw [List.getElem?_set_self hil] at q; cases q
    · rwa [List.getElem?_set_ne z] at q
  refine ⟨by simp [s.len], fun j e q => ?_, fun j e q => ?_, fun j k dj dk b q1 q2 q3 q4 => ?_, fun j ks q => ?_, fun j k di dj b q1 q2 => s.nd j k di dj b (fo q1) (fo q2), s.rfSet' (fun _ _ z => nomatch z)⟩
  · by_cases z : i = j
    · subst z; rw [List.getElem?_set_self hil] at q; cases q
    · rw [List.getElem?_set_ne z] at q
      exact s.da j e q
  · by_cases z : i = j
    · subst z; rw [List.getElem?_set_self hil] at q; cases q
      exact ⟨p, vs, hs, upd_same, h3, h4, ha⟩
    · rw [List.getElem?_set_ne z] at q
      obtain ⟨b, ws, k1, k2, k3, k4, k5⟩ := s.ow j e q
      have nb : b ≠ p := fun y => by subst y; exact z (s.ne i j ds e b hi q hs k1)
      exact ⟨b, ws, k1, by rw [upd_ne nb]; exact k2, k3, k4, k5⟩
  · have f : ∀ {m : Nat} {dm : List PyData}, (Γ.set i (.ow es))[m]? = some (.ow dm) → ∃ dm', Γ[m]? = some (.ow dm') := fun {m dm} q => by
      by_cases z : i = m
      · subst z; exact ⟨ds, hi⟩
      · rw [List.getElem?_set_ne z] at q; exact ⟨dm, q⟩
    obtain ⟨d1, f1⟩ := f q1
    obtain ⟨d2, f2⟩ := f q2
    exact s.ne j k d1 d2 b f1 f2 q3 q4
  · obtain ⟨b, kvs, k1, k2, k3⟩ := s.od j ks (fo q)
    have nb : b ≠ p := fun y => by subst y; rw [h2] at k2; cases k2
    exact ⟨b, kvs, k1, by rw [upd_ne nb]; exact k2, k3⟩
/-- a slot comes to hold that very value -/
theorem Sat.setF (s : Sat K H0 G H σ Γ) {i : Nat} {v : V} {o : Option PyData} (ho : ∀ d, o = some d → AtX K G v d) : Sat K H0 G H (σ.set i (some v)) (Γ.set i (.fx v o)) := by
  have t := s.setN (i := i) (o := some v)
  have f : ∀ {j : Nat} {x : Sl}, (Γ.set i (.fx v o))[j]? = some x → (∀ b c, x ≠ .fx b c) → (Γ.set i .no)[j]? = some x := fun {j x} q n => by
    by_cases z : i = j
    · subst z
      have hi : i < Γ.length := by have := (List.getElem?_eq_some_iff.mp q).1; simpa using this
      rw [List.getElem?_set_self hi] at q
      exact absurd (Option.some.inj q).symm (n v o)
    · rw [List.getElem?_set_ne z] at q ⊢; exact q
  refine ⟨by simp [s.len], fun j d q => t.da j d (f q (fun _ _ z => nomatch z)), fun j ds q => t.ow j ds (f q (fun _ _ z => nomatch z)), fun j k dj dk p q1 q2 => t.ne j k dj dk p (f q1 (fun _ _ z => nomatch z)) (f q2 (fun _ _ z => nomatch z)),
    fun j ks q => t.od j ks (f q (fun _ _ z => nomatch z)), fun j k dj dk p q1 q2 => t.nd j k dj dk p (f q1 (fun _ _ z => nomatch z)) (f q2 (fun _ _ z => nomatch z)), fun j b c q => ?_⟩
  by_cases z : i = j
  · subst z
    have hi : i < Γ.length := by have := (List.getElem?_eq_some_iff.mp q).1; simpa using this
    rw [List.getElem?_set_self hi] at q
    cases q
    rw [List.getElem?_set_self (by rw [s.len]; exact hi)]
    exact ⟨rfl, ho⟩
  · rw [List.getElem?_set_ne z] at q ⊢; exact s.fx j b c q
theorem Sat.setR (s : Sat K H0 G H σ Γ) {i : Nat} {a : Addr} : Sat K H0 G H (σ.set i (some (.ref a))) (Γ.set i (.rf a)) := s.setF fun _ z => nomatch z
/-- a slot comes to hold an empty dict of its own -/
theorem Sat.setK (s : Sat K H0 G H σ Γ) {i : Nat} {p : Addr} (hp : H p = some (.dK [])) (gp : G p = none) (h0 : H0 p = none)
    (new : ∀ (j : Nat) (dj : List Int), Γ[j]? = some (.od dj) → σ[j]? ≠ some (some (.ref p))) : Sat K H0 G H (σ.set i (some (.ref p))) (Γ.set i (.od [])) := by
  have at_i : ∀ {x : Sl}, (Γ.set i (.od []))[i]? = some x → x = .od [] ∧ i < Γ.length := fun {x} q => by
    have hi : i < Γ.length := by have := (List.getElem?_eq_some_iff.mp q).1; simpa using this
    rw [List.getElem?_set_self hi] at q
    exact ⟨(Option.some.inj q).symm, hi⟩
  have off : ∀ {j : Nat} {x : Sl}, (Γ.set i (.od []))[j]? = some x → (∀ ks, x ≠ .od ks) → i ≠ j := fun {j x} q n z => by
    subst z; exact n _ (at_i q).1
  refine ⟨by simp [s.len], fun j e q => ?_, fun j es q => ?_, fun j k dj dk b q1 q2 q3 q4 => ?_, fun j ks q => ?_, fun j k dj dk b q1 q2 q3 q4 => ?_, s.rfSet (fun _ _ z => nomatch z)⟩
  · have z := off q (fun _ z => nomatch z)
    rw [List.getElem?_set_ne z] at q ⊢
    exact s.da j e q
  · have z := off q (fun _ z => nomatch z)
    rw [List.getElem?_set_ne z] at q ⊢
    exact s.ow j es q
  · have z1 := off q1 (fun _ z => nomatch z)
    have z2 := off q2 (fun _ z => nomatch z)
    rw [List.getElem?_set_ne z1] at q1 q3
    rw [List.getElem?_set_ne z2] at q2 q4
    exact s.ne j k dj dk b q1 q2 q3 q4
  · by_cases z : i = j
    · subst z
      obtain ⟨e1, hi⟩ := at_i q
      cases e1
      exact ⟨p, [], by rw [List.getElem?_set_self (by rw [s.len]; exact hi)], hp, gp, h0, Nat.le_refl _, fun k => by simp [valV]⟩
    · rw [List.getElem?_set_ne z] at q ⊢
      exact s.od j ks q
  · by_cases z1 : i = j
    · by_cases z2 : i = k
      · rw [← z1, ← z2]
      · exfalso
        subst z1
        obtain ⟨_, hi⟩ := at_i q1
        rw [List.getElem?_set_self (by rw [s.len]; exact hi)] at q3
        cases q3
        rw [List.getElem?_set_ne z2] at q2 q4
        exact new k dk q2 q4
    · by_cases z2 : i = k
      · exfalso
        subst z2
        obtain ⟨_, hi⟩ := at_i q2
        rw [List.getElem?_set_self (by rw [s.len]; exact hi)] at q4
        cases q4
        rw [List.getElem?_set_ne z1] at q1 q3
        exact new j dj q1 q3
      · rw [List.getElem?_set_ne z1] at q1 q3
        rw [List.getElem?_set_ne z2] at q2 q4
        exact s.nd j k dj dk b q1 q2 q3 q4
/-- the dict of slot i gets a key -/
theorem Sat.put (s : Sat K H0 G H σ Γ) {i : Nat} {p : Addr} {kvs : List (Key × V)} {ks : List Int} {k : Int} {v : V} (hi : Γ[i]? = some (.od ks)) (hs : σ[i]? = some (some (.ref p))) (hp : H p = some (.dK kvs)) (nk : k ∉ ks) :
    Sat K H0 G (upd H p (.dK (putK kvs (Sum.inl k) v))) σ (Γ.set i (.od (ks ++ [k]))) := by
  have hil : i < Γ.length := (List.getElem?_eq_some_iff.mp hi).1
  obtain ⟨p', kvs', h1, h2, h3, h4, h5, h6⟩ := s.od i ks hi
  rw [hs] at h1; cases h1
  rw [hp] at h2; cases h2
  have off : ∀ {j : Nat} {x : Sl}, (Γ.set i (.od (ks ++ [k])))[j]? = some x → (∀ ks, x ≠ .od ks) → Γ[j]? = some x := fun {j x} q n => by
    by_cases z : i = j
    · subst z; rw [List.getElem?_set_self hil] at q; exact absurd (Option.some.inj q).symm (n _)
    · rwa [List.getElem?_set_ne z] at q
  have fo : ∀ {j : Nat} {es : List Int}, (Γ.set i (.od (ks ++ [k])))[j]? = some (.od es) → ∃ es', Γ[j]? = some (.od es') := fun {j es} q => by
    by_cases z : i = j
    · subst z; exact ⟨ks, hi⟩
    · rw [List.getElem?_set_ne z] at q; exact ⟨es, q⟩
  have hv : valV kvs (Sum.inl k) = none := by
    have := h6 k
    rw [decide_eq_false nk] at this
    exact Option.not_isSome_iff_eq_none.mp (by rw [this]; exact Bool.false_ne_true)
  refine ⟨by simp [s.len], fun j e q => ?_, fun j e q => ?_, fun j m dj dk b q1 q2 => s.ne j m dj dk b (off q1 (fun _ z => nomatch z)) (off q2 (fun _ z => nomatch z)), fun j es q => ?_, fun j m di dj b q1 q2 q3 q4 => ?_, s.rfSet' (fun _ _ z => nomatch z)⟩
  · exact s.da j e (off q (fun _ z => nomatch z))
  · obtain ⟨b, ws, k1, k2, k3⟩ := s.ow j e (off q (fun _ z => nomatch z))
    have nb : b ≠ p := fun y => by subst y; rw [hp] at k2; cases k2
    exact ⟨b, ws, k1, by rw [upd_ne nb]; exact k2, k3⟩
  · by_cases z : i = j
    · subst z; rw [List.getElem?_set_self hil] at q; cases q
      refine ⟨p, _, hs, upd_same, h3, h4, ?_, fun m => ?_⟩
      · rw [putK_new v hv, List.length_append, List.length_append]; simp; exact h5
      · rw [valV_put]
        by_cases y : (Sum.inl m : Key) = Sum.inl k
        · rw [if_pos y]; cases y; simp
        · rw [if_neg y, h6 m]
          have y' : ¬ m = k := fun e => y (by rw [e])
          simp [y']
    · rw [List.getElem?_set_ne z] at q
      obtain ⟨b, ws, k1, k2, k3⟩ := s.od j es q
      have nb : b ≠ p := fun y => by subst y; exact z (s.nd i j ks es b hi q hs k1)
      exact ⟨b, ws, k1, by rw [upd_ne nb]; exact k2, k3⟩
  · obtain ⟨e1, r1⟩ := fo q1
    obtain ⟨e2, r2⟩ := fo q2
    exact s.nd j m e1 e2 b r1 r2 q3 q4
/-- forgetting -/
inductive Wk : Sl → Sl → Prop
  | no (s : Sl) : Wk s .no
  | same (s : Sl) : Wk s s
theorem Sat.weak {Γ' : Env} (s : Sat K H0 G H σ Γ) (hl : Γ'.length = Γ.length) (w : ∀ (i : Nat) (x y : Sl), Γ[i]? = some x → Γ'[i]? = some y → Wk x y) : Sat K H0 G H σ Γ' := by
  have up : ∀ {i : Nat} {y : Sl}, Γ'[i]? = some y → y ≠ .no → Γ[i]? = some y := fun {i y} q n => by
    have hi : i < Γ.length := by rw [← hl]; exact (List.getElem?_eq_some_iff.mp q).1
    have e := List.getElem?_eq_getElem hi
    have r := w i _ y e q
    cases r with
    | no => exact absurd rfl n
    | same => exact e
  exact ⟨by rw [hl]; exact s.len, fun i d q => s.da i d (up q (fun z => nomatch z)), fun i ds q => s.ow i ds (up q (fun z => nomatch z)), fun i j di dj p q1 q2 => s.ne i j di dj p (up q1 (fun z => nomatch z)) (up q2 (fun z => nomatch z)),
    fun i ks q => s.od i ks (up q (fun z => nomatch z)), fun i j di dj p q1 q2 => s.nd i j di dj p (up q1 (fun z => nomatch z)) (up q2 (fun z => nomatch z)), fun i v o q => s.fx i v o (up q (fun z => nomatch z))⟩
end
end PD

set_option Elab.async false
set_option linter.all false
set_option maxRecDepth 100000
set_option maxHeartbeats 1000000
/-! Expressions over data. -/
namespace PD
open PySem L2
section
variable (K : PySem.W.Frag)
def EvD (te : TE) (Γ : Env) (d : PyData) : Prop := ∀ (H0 G H : Hp) (σ : St), Sat K H0 G H σ Γ → Same G H → ∀ Q : VK, (∀ v G' H', Ext G H G' H' → At K G' v d → Q v H') → te σ H Q
/-- a new list -/
def EvO (te : TE) (Γ : Env) (ds : List PyData) : Prop := ∀ (H0 G H : Hp) (σ : St), Sat K H0 G H σ Γ → Same G H → ∀ Q : VK,
  (∀ p vs G' H', Ext G H G' H' → H p = none → G' p = none → H' p = some (.lst vs) → AtAll K G' vs ds → Q (.ref p) H') → te σ H Q
def EvT (tt : TT) (Γ : Env) (b : Bool) : Prop := ∀ (H0 G H : Hp) (σ : St), Sat K H0 G H σ Γ → Same G H → ∀ Q : Bool → Hp → Prop, (∀ G' H', Ext G H G' H' → Q b H') → tt σ H Q
def EvA (ta : TA) (Γ : Env) (ds : List PyData) : Prop := ∀ (H0 G H : Hp) (σ : St), Sat K H0 G H σ Γ → Same G H → ∀ Q : List V → Hp → Prop, (∀ vs G' H', Ext G H G' H' → AtAll K G' vs ds → Q vs H') → ta σ H Q
def EvP (to : TO) (Γ : Env) (o : Option Int) : Prop := ∀ (H0 G H : Hp) (σ : St), Sat K H0 G H σ Γ → Same G H → ∀ Q : Option Int → Hp → Prop, (∀ G' H', Ext G H G' H' → Q o H') → to σ H Q
/-- it raises an own error of the class at C -/
def EvX (E : XK) (te : TE) (Γ : Env) (C : Addr) : Prop := ∀ (H0 G H : Hp) (σ : St), Sat K H0 G H σ Γ → Same G H → (∀ H', Same H H' → E (.ref C) none H') → ∀ Q : VK, te σ H Q
def ExA (E : XK) (ta : TA) (Γ : Env) (C : Addr) : Prop := ∀ (H0 G H : Hp) (σ : St), Sat K H0 G H σ Γ → Same G H → (∀ H', Same H H' → E (.ref C) none H') → ∀ Q : List V → Hp → Prop, ta σ H Q
def ExT (E : XK) (tt : TT) (Γ : Env) (C : Addr) : Prop := ∀ (H0 G H : Hp) (σ : St), Sat K H0 G H σ Γ → Same G H → (∀ H', Same H H' → E (.ref C) none H') → ∀ Q : Bool → Hp → Prop, tt σ H Q
end
section
variable {K : PySem.W.Frag} {Γ : Env} {ta tb tc te : TE} {t u : TT}
theorem EvO.toD {ds : List PyData} (h : EvO K te Γ ds) : EvD K te Γ (.list ds) := fun H0 G H σ s gh Q q => h H0 G H σ s gh Q fun p vs G' H' e hp gp hp' ha => by
  have e2 : Ext G H (upd G' p (.lst vs)) H' := by
    refine ⟨e.hh, e.gg.trans (same_new gp), fun b x z => ?_, fun a z n => ?_⟩
    · by_cases y : b = p
      · subst y; rw [upd_same] at z; cases z; exact hp'
      · rw [upd_ne y] at z; exact e.gh b x z
    · have y : a ≠ p := fun y => n (by rw [y]; exact hp)
      rw [upd_ne y]; exact e.fr a z n
  exact q _ _ _ e2 (.lst upd_same (ha.up (same_new gp)))
theorem evd_eq {d e : PyData} (h : EvD K te Γ d) (z : d = e) : EvD K te Γ e := z ▸ h
theorem evo_eq {d e : List PyData} (h : EvO K te Γ d) (z : d = e) : EvO K te Γ e := z ▸ h
theorem evt_eq {a b : Bool} (h : EvT K t Γ a) (z : a = b) : EvT K t Γ b := z ▸ h

/-! ### names, constants -/
theorem ev_var {i : Nat} {d : PyData} (h : Γ[i]? = some (.da d)) : EvD K (tVar i) Γ d := fun H0 G H σ s gh Q q => by
  obtain ⟨v, h1, h2⟩ := s.da i d h
  exact ⟨v, h1, q v G H (Ext.refl gh) h2⟩
theorem ev_int {i : Int} : EvD K (tC (.int i)) Γ (.int i) := fun H0 G H σ s gh Q q => q _ G H (Ext.refl gh) (.int i)
theorem ev_bl {b : Bool} : EvD K (tC (.bl b)) Γ (.bool b) := fun H0 G H σ s gh Q q => q _ G H (Ext.refl gh) (.bl b)
theorem ev_non : EvD K (tC .non) Γ .none := fun H0 G H σ s gh Q q => q _ G H (Ext.refl gh) .non
theorem ev_str {x : Str} : EvD K (tC (.str x)) Γ (.str x) := fun H0 G H σ s gh Q q => q _ G H (Ext.refl gh) (.str x)

/-! ### two operands -/
/-- what a two-place operation gives on data -/
def RvD (K : PySem.W.Frag) (r : R2) (d e f : PyData) : Prop := ∀ (G H : Hp) (x y : V), Same G H → At K G x d → At K G y e → ∀ Q : VK, (∀ v G' H', Ext G H G' H' → At K G' v f → Q v H') → r x y H Q
theorem ev_op {r : R2} {d e f : PyData} (ha : EvD K ta Γ d) (hb : EvD K tb Γ e) (hr : RvD K r d e f) : EvD K (tOp r ta tb) Γ f := fun H0 G H σ s gh Q q =>
  ha H0 G H σ s gh _ fun x G1 H1 e1 a1 => hb H0 G1 H1 σ (s.ext e1) e1.gh _ fun y G2 H2 e2 a2 => hr G2 H2 x y e2.gh (a1.up e2.gg) a2 Q fun v G3 H3 e3 a3 => q v G3 H3 ((e1.trans e2).trans e3) a3
theorem RvD.inl {r r' : R2} {d e f : PyData} (h : RvD K r d e f) : RvD K (fun x y H Q => r x y H Q ∨ r' x y H Q) d e f := fun G H x y gh a b Q q => .inl (h G H x y gh a b Q q)
theorem RvD.inr {r r' : R2} {d e f : PyData} (h : RvD K r' d e f) : RvD K (fun x y H Q => r x y H Q ∨ r' x y H Q) d e f := fun G H x y gh a b Q q => .inr (h G H x y gh a b Q q)
theorem rv_I0i {g : Int → Int → Int} {i j : Int} : RvD K (rI0 fun i j => .int (g i j)) (.int i) (.int j) (.int (g i j)) := fun G H x y gh a b Q q => by
  cases a; cases b
  exact ⟨i, j, rfl, rfl, q _ G H (Ext.refl gh) (.int _)⟩
theorem rv_I0b {g : Int → Int → Bool} {i j : Int} : RvD K (rI0 fun i j => .bl (g i j)) (.int i) (.int j) (.bool (g i j)) := fun G H x y gh a b Q q => by
  cases a; cases b
  exact ⟨i, j, rfl, rfl, q _ G H (Ext.refl gh) (.bl _)⟩
theorem rv_Ii {C : Int → Int → Prop} {g : Int → Int → Int} {i j : Int} (hc : C i j) : RvD K (rI C fun i j => .int (g i j)) (.int i) (.int j) (.int (g i j)) := fun G H x y gh a b Q q => by
  cases a; cases b
  exact ⟨i, j, rfl, rfl, hc, q _ G H (Ext.refl gh) (.int _)⟩
abbrev rAddI : R2 := rI0 fun i j => .int (i + j)
abbrev rAddS : R2 := fun x y H Q => ∃ i j, x = .str i ∧ y = .str j ∧ i.length + j.length ≤ sizeLine ∧ Q (.str (i ++ j)) H
/-- a + b, whatever they are -/
abbrev rAdd3 : R2 := fun x y H Q => rAddI x y H Q ∨ (fun x y H Q => rAddS x y H Q ∨ rCat x y H Q) x y H Q
abbrev rSubI : R2 := rI0 fun i j => .int (i - j)
abbrev rMulI : R2 := rI CMul fun i j => .int (i * j)
abbrev rMul2 : R2 := fun x y H Q => rMulI x y H Q ∨ rRep x y H Q
abbrev rModI : R2 := rI (fun _ j => 0 < j) fun i j => .int (i % j)
abbrev rDivI : R2 := rI CDiv fun i j => .int (i / j)
abbrev rPowI : R2 := rI CPow fun i j => .int (i ^ j.toNat)
theorem ev_add {i j : Int} (ha : EvD K ta Γ (.int i)) (hb : EvD K tb Γ (.int j)) : EvD K (tOp rAdd3 ta tb) Γ (.int (i + j)) := ev_op ha hb rv_I0i.inl
theorem ev_sub {i j : Int} (ha : EvD K ta Γ (.int i)) (hb : EvD K tb Γ (.int j)) : EvD K (tOp rSubI ta tb) Γ (.int (i - j)) := ev_op ha hb rv_I0i
theorem ev_mul {i j : Int} (ha : EvD K ta Γ (.int i)) (hb : EvD K tb Γ (.int j)) (hc : CMul i j) : EvD K (tOp rMul2 ta tb) Γ (.int (i * j)) := ev_op ha hb (rv_Ii hc).inl
theorem ev_mod {i j : Int} (ha : EvD K ta Γ (.int i)) (hb : EvD K tb Γ (.int j)) (hc : 0 < j) : EvD K (tOp rModI ta tb) Γ (.int (i % j)) := ev_op ha hb (rv_Ii hc)
theorem ev_div {i j : Int} (ha : EvD K ta Γ (.int i)) (hb : EvD K tb Γ (.int j)) (hc : CDiv i j) : EvD K (tOp rDivI ta tb) Γ (.int (i / j)) := ev_op ha hb (rv_Ii hc)
theorem ev_pow {i j : Int} (ha : EvD K ta Γ (.int i)) (hb : EvD K tb Γ (.int j)) (hc : CPow i j) : EvD K (tOp rPowI ta tb) Γ (.int (i ^ j.toNat)) := ev_op ha hb (rv_Ii hc)
theorem ev_addS {x y : Str} (ha : EvD K ta Γ (.str x)) (hb : EvD K tb Γ (.str y)) (hz : x.length + y.length ≤ sizeLine) : EvD K (tOp rAdd3 ta tb) Γ (.str (x ++ y)) :=
  ev_op ha hb (RvD.inr (RvD.inl fun G H v w gh a b Q q => by
    cases a; cases b
    exact ⟨x, y, rfl, rfl, hz, q _ G H (Ext.refl gh) (.str _)⟩))
/-- a two-place operation that gives a new list -/
def RvO (K : PySem.W.Frag) (r : R2) (d e : PyData) (fs : List PyData) : Prop := ∀ (G H : Hp) (x y : V), Same G H → At K G x d → At K G y e → ∀ Q : VK,
  (∀ p vs G' H', Ext G H G' H' → H p = none → G' p = none → H' p = some (.lst vs) → AtAll K G' vs fs → Q (.ref p) H') → r x y H Q
theorem ev_opO {r : R2} {d e : PyData} {fs : List PyData} (ha : EvD K ta Γ d) (hb : EvD K tb Γ e) (hr : RvO K r d e fs) : EvO K (tOp r ta tb) Γ fs := fun H0 G H σ s gh Q q =>
  ha H0 G H σ s gh _ fun x G1 H1 e1 a1 => hb H0 G1 H1 σ (s.ext e1) e1.gh _ fun y G2 H2 e2 a2 => hr G2 H2 x y e2.gh (a1.up e2.gg) a2 Q fun p vs G3 H3 e3 hp gp h3 a3 =>
    q p vs G3 H3 ((e1.trans e2).trans e3) ((e1.trans e2).hh.free hp) gp h3 a3
theorem ev_cat {ds es : List PyData} (ha : EvD K ta Γ (.list ds)) (hb : EvD K tb Γ (.list es)) (hz : ds.length + es.length ≤ 100000) : EvO K (tOp rAdd3 ta tb) Γ (ds ++ es) :=
  ev_opO ha hb fun G H x y gh a b Q q => by
    cases a with
    | lst a1 a2 =>
      cases b with
      | lst b1 b2 =>
        refine .inr (.inr ⟨_, _, _, _, rfl, rfl, gh _ _ a1, gh _ _ b1, ?_, fun p hp => ?_⟩)
        · rw [a2.length, b2.length]; exact Nat.le_trans hz (by decide)
        · exact q p _ G _ (Ext.own gh hp) hp (gh.free hp) upd_same (a2.app b2)
theorem rep_flat {α : Type} (x : α) : ∀ n : Nat, (List.replicate n [x]).flatten = List.replicate n x
  | 0 => rfl
  | n + 1 => by rw [List.replicate_succ, List.flatten_cons, rep_flat x n]; rfl
theorem atAll_rep {G : Hp} {v : V} {d : PyData} (hv : At K G v d) : ∀ m : Nat, AtAll K G (List.replicate m v) (List.replicate m d)
  | 0 => .nil
  | m + 1 => by rw [List.replicate_succ, List.replicate_succ]; exact .cons hv (atAll_rep hv m)
/-- [e] * n -/
theorem ev_rep {d : PyData} {n : Int} (ha : EvD K ta Γ (.list [d])) (hb : EvD K tb Γ (.int n)) (h0 : 0 ≤ n ∧ n ≤ 100000) : EvO K (tOp rMul2 ta tb) Γ (List.replicate n.toNat d) :=
  ev_opO ha hb fun G H x y gh a b Q q => by
    cases b
    cases a with
    | lst a1 a2 =>
      rename_i l xs
      have hl := a2.length
      have e1 : ∃ v, xs = [v] ∧ At K G v d := by
        cases a2 with
        | cons h1 h2 => cases h2; exact ⟨_, rfl, h1⟩
      obtain ⟨v, rfl, hv⟩ := e1
      refine .inr ⟨l, n, [v], rfl, rfl, gh _ _ a1, by omega, by omega, ?_, fun p hp => ?_⟩
      · show 1 * n.toNat ≤ sizeLine
        have : (100000 : Nat) ≤ sizeLine := by decide
        omega
      · refine q p _ G _ (Ext.own gh hp) hp (gh.free hp) upd_same ?_
        rw [rep_flat]
        exact atAll_rep hv _

/-! ### indexing -/
theorem atI_at {K : PySem.W.Frag} {G : Hp} {vs : List V} {ds : List PyData} {i : Int} {d : PyData} (ha : AtAll K G vs ds) (h : atI ds i = some d) : ∃ v, atI vs i = some v ∧ At K G v d := by
  unfold atI at h ⊢
  rw [ha.length]
  cases e : ixN ds.length i with
  | none => rw [e] at h; cases h
  | some j =>
    rw [e] at h
    exact ha.get h
theorem atI_of {α : Type} {xs : List α} {i : Int} {x : α} (h0 : 0 ≤ i) (h : xs[i.toNat]? = some x) : atI xs i = some x := by
  have e : ((i.toNat : Nat) : Int) = i := Int.toNat_of_nonneg h0
  rw [← e]
  exact atI_nat h
theorem ev_ixL {ds : List PyData} {i : Int} {d : PyData} (ha : EvD K ta Γ (.list ds)) (hb : EvD K tb Γ (.int i)) (h : atI ds i = some d) : EvD K (tOp (rIx K) ta tb) Γ d :=
  ev_op ha hb fun G H x y gh a b Q q => by
    cases b
    cases a with
    | lst a1 a2 =>
      obtain ⟨v, h1, h2⟩ := atI_at a2 h
      exact .inl ⟨_, _, i, v, rfl, rfl, SqL.of (gh _ _ a1), h1, q v G H (Ext.refl gh) h2⟩
theorem ev_ixT {ds : List PyData} {i : Int} {d : PyData} (ha : EvD K ta Γ (.tuple ds)) (hb : EvD K tb Γ (.int i)) (h : atI ds i = some d) : EvD K (tOp (rIx K) ta tb) Γ d :=
  ev_op ha hb fun G H x y gh a b Q q => by
    cases b
    cases a with
    | tup a1 a2 =>
      obtain ⟨v, h1, h2⟩ := atI_at a2 h
      exact .inr (.inl ⟨_, _, i, v, rfl, rfl, SqT.of (gh _ _ a1), h1, q v G H (Ext.refl gh) h2⟩)
theorem ev_ixS {z : Str} {i : Int} {c : Nat} (ha : EvD K ta Γ (.str z)) (hb : EvD K tb Γ (.int i)) (hz : z.length ≤ sizeLine) (h : atI z.cps.toList i = some c) : EvD K (tOp (rIx K) ta tb) Γ (.str ⟨#[c]⟩) :=
  ev_op ha hb fun G H x y gh a b Q q => by
    cases b
    cases a
    exact .inr (.inr ⟨z, i, c, rfl, rfl, hz, h, q _ G H (Ext.refl gh) (.str _)⟩)
theorem ev_ixScr {ns : List Int} {i k : Int} (ha : EvD K ta Γ (scr ns)) (hb : EvD K tb Γ (.int i)) (h : atI ns i = some k) : EvD K (tOp (rIx K) ta tb) Γ (.int k) :=
  ev_op ha hb fun G H x y gh a b Q q => by
    cases b
    obtain ⟨z, rfl, a1⟩ := a.scrI
    · refine .inl ⟨_, _, i, .int k, rfl, rfl, gh.seq a1, ?_, q _ G H (Ext.refl gh) (.int _)⟩
      unfold atI at h ⊢
      rw [List.length_map]
      cases e : ixN ns.length i with
      | none => rw [e] at h; cases h
      | some j =>
        rw [e] at h
        show (ns.map V.int)[j]? = _
        have h' : ns[j]? = some k := h
        rw [List.getElem?_map, h']; rfl
/-- over typed lists -/
theorem atI_map {α β : Type} {f : α → β} {xs : List α} {i : Int} (h0 : 0 ≤ i) (h1 : i < xs.length) (d : α) : atI (xs.map f) i = some (f (xs.getD i.toNat d)) := by
  refine atI_of h0 ?_
  have hi : i.toNat < xs.length := by omega
  rw [List.getElem?_map, List.getElem?_eq_getElem hi, List.getD_eq_getElem?_getD, List.getElem?_eq_getElem hi]
  rfl

/-! ### comparisons -/
abbrev rEq2 (K : PySem.W.Frag) : R2 := fun x y H Q => rEq x y H Q ∨ rEqD K x y H Q
abbrev rNe2 (K : PySem.W.Frag) : R2 := fun x y H Q => rNe x y H Q ∨ rNeD K x y H Q
abbrev rLtI : R2 := rI0 fun i j => .bl (decide (i < j))
abbrev rLeI : R2 := rI0 fun i j => .bl (decide (i ≤ j))
abbrev rGtI : R2 := rI0 fun i j => .bl (decide (j < i))
abbrev rGeI : R2 := rI0 fun i j => .bl (decide (j ≤ i))
theorem ev_lt {i j : Int} (ha : EvD K ta Γ (.int i)) (hb : EvD K tb Γ (.int j)) : EvD K (tOp rLtI ta tb) Γ (.bool (decide (i < j))) := ev_op ha hb rv_I0b
theorem ev_le {i j : Int} (ha : EvD K ta Γ (.int i)) (hb : EvD K tb Γ (.int j)) : EvD K (tOp rLeI ta tb) Γ (.bool (decide (i ≤ j))) := ev_op ha hb rv_I0b
theorem ev_gt {i j : Int} (ha : EvD K ta Γ (.int i)) (hb : EvD K tb Γ (.int j)) : EvD K (tOp rGtI ta tb) Γ (.bool (decide (j < i))) := ev_op ha hb rv_I0b
theorem ev_ge {i j : Int} (ha : EvD K ta Γ (.int i)) (hb : EvD K tb Γ (.int j)) : EvD K (tOp rGeI ta tb) Γ (.bool (decide (j ≤ i))) := ev_op ha hb rv_I0b
theorem rv_eqI {i j : Int} : RvD K (rEq2 K) (.int i) (.int j) (.bool (decide (i = j))) := fun G H x y gh a b Q q => by
  cases a; cases b
  refine .inl ⟨rfl, ?_⟩
  have e : decide (V.int i = V.int j) = decide (i = j) := by
    by_cases z : i = j
    · subst z; simp
    · rw [decide_eq_false z, decide_eq_false (fun y => z (V.int.inj y))]
  rw [e]
  exact q _ G H (Ext.refl gh) (.bl _)
theorem rv_neI {i j : Int} : RvD K (rNe2 K) (.int i) (.int j) (.bool (!decide (i = j))) := fun G H x y gh a b Q q => by
  cases a; cases b
  refine .inl ⟨rfl, ?_⟩
  have e : decide (V.int i = V.int j) = decide (i = j) := by
    by_cases z : i = j
    · subst z; simp
    · rw [decide_eq_false z, decide_eq_false (fun y => z (V.int.inj y))]
  rw [e]
  exact q _ G H (Ext.refl gh) (.bl _)
theorem rv_eqS {i j : Str} : RvD K (rEq2 K) (.str i) (.str j) (.bool (decide (i = j))) := fun G H x y gh a b Q q => by
  cases a; cases b
  refine .inl ⟨rfl, ?_⟩
  have e : decide (V.str i = V.str j) = decide (i = j) := by
    by_cases z : i = j
    · subst z; simp
    · rw [decide_eq_false z, decide_eq_false (fun y => z (V.str.inj y))]
  rw [e]
  exact q _ G H (Ext.refl gh) (.bl _)
theorem rv_neS {i j : Str} : RvD K (rNe2 K) (.str i) (.str j) (.bool (!decide (i = j))) := fun G H x y gh a b Q q => by
  cases a; cases b
  refine .inl ⟨rfl, ?_⟩
  have e : decide (V.str i = V.str j) = decide (i = j) := by
    by_cases z : i = j
    · subst z; simp
    · rw [decide_eq_false z, decide_eq_false (fun y => z (V.str.inj y))]
  rw [e]
  exact q _ G H (Ext.refl gh) (.bl _)
theorem dp_up {K : PySem.W.Frag} {G H : Hp} (gh : Same G H) {d : PyData} {v : V} (h : At K G v d) (s : SeqAt.shaped d = true) : Dp K H v d := At.dp d v (SeqAt.canLay_of_shaped s) (h.up gh)
theorem rv_eqD {d e : PyData} (sd : SeqAt.shaped d = true) (se : SeqAt.shaped e = true) : RvD K (rEq2 K) d e (.bool (PyData.eqv d e)) := fun G H x y gh a b Q q =>
  .inr ⟨d, e, dp_up gh a sd, dp_up gh b se, sd, se, q _ G H (Ext.refl gh) (.bl _)⟩
theorem rv_neD {d e : PyData} (sd : SeqAt.shaped d = true) (se : SeqAt.shaped e = true) : RvD K (rNe2 K) d e (.bool (!PyData.eqv d e)) := fun G H x y gh a b Q q =>
  .inr ⟨d, e, dp_up gh a sd, dp_up gh b se, sd, se, q _ G H (Ext.refl gh) (.bl _)⟩
theorem ev_eqI {i j : Int} (ha : EvD K ta Γ (.int i)) (hb : EvD K tb Γ (.int j)) : EvD K (tOp (rEq2 K) ta tb) Γ (.bool (decide (i = j))) := ev_op ha hb rv_eqI
theorem ev_neI {i j : Int} (ha : EvD K ta Γ (.int i)) (hb : EvD K tb Γ (.int j)) : EvD K (tOp (rNe2 K) ta tb) Γ (.bool (!decide (i = j))) := ev_op ha hb rv_neI
theorem ev_eqS {i j : Str} (ha : EvD K ta Γ (.str i)) (hb : EvD K tb Γ (.str j)) : EvD K (tOp (rEq2 K) ta tb) Γ (.bool (decide (i = j))) := ev_op ha hb rv_eqS
theorem ev_neS {i j : Str} (ha : EvD K ta Γ (.str i)) (hb : EvD K tb Γ (.str j)) : EvD K (tOp (rNe2 K) ta tb) Γ (.bool (!decide (i = j))) := ev_op ha hb rv_neS
theorem ev_eqD {d e : PyData} (ha : EvD K ta Γ d) (hb : EvD K tb Γ e) (sd : SeqAt.shaped d = true) (se : SeqAt.shaped e = true) : EvD K (tOp (rEq2 K) ta tb) Γ (.bool (PyData.eqv d e)) := ev_op ha hb (rv_eqD sd se)
theorem ev_neD {d e : PyData} (ha : EvD K ta Γ d) (hb : EvD K tb Γ e) (sd : SeqAt.shaped d = true) (se : SeqAt.shaped e = true) : EvD K (tOp (rNe2 K) ta tb) Γ (.bool (!PyData.eqv d e)) := ev_op ha hb (rv_neD sd se)
/-- is None -/
abbrev rIsN : R2 := fun x y H Q => y = .non ∧ Q (.bl (decide (x = .non))) H
abbrev rNotN : R2 := fun x y H Q => y = .non ∧ Q (.bl (!decide (x = .non))) H
def isNone : PyData → Bool
  | .none => true
  | _ => false
theorem At.isNone {K : PySem.W.Frag} {G : Hp} {v : V} {d : PyData} (h : At K G v d) : decide (v = .non) = isNone d := by
  cases h <;> rfl
theorem ev_isN {d : PyData} (ha : EvD K ta Γ d) : EvD K (tOp rIsN ta (tC .non)) Γ (.bool (isNone d)) := ev_op (e := .none) ha ev_non fun G H x y gh a b Q q => by
  cases b
  exact ⟨rfl, by rw [a.isNone]; exact q _ G H (Ext.refl gh) (.bl _)⟩
theorem ev_notN {d : PyData} (ha : EvD K ta Γ d) : EvD K (tOp rNotN ta (tC .non)) Γ (.bool (!isNone d)) := ev_op (e := .none) ha ev_non fun G H x y gh a b Q q => by
  cases b
  exact ⟨rfl, by rw [a.isNone]; exact q _ G H (Ext.refl gh) (.bl _)⟩
/-- a op b op c of ints -/
theorem ev_chain {r r' : R2} {d e f : PyData} {b c : Bool} (ha : EvD K ta Γ d) (hb : EvD K tb Γ e) (hc : b = true → EvD K tc Γ f) (h1 : RvD K r d e (.bool b)) (h2 : b = true → RvD K r' e f (.bool c)) : EvD K (tChain r r' ta tb tc) Γ (.bool (b && c)) :=
  fun H0 G H σ s gh Q q => ha H0 G H σ s gh _ fun x G1 H1 e1 a1 => hb H0 G1 H1 σ (s.ext e1) e1.gh _ fun y G2 H2 e2 a2 => h1 G2 H2 x y e2.gh (a1.up e2.gg) a2 _ fun z G3 H3 e3 a3 => by
    cases a3
    refine ⟨b, rfl, ?_⟩
    cases b with
    | false => exact q _ G3 H3 ((e1.trans e2).trans e3) (.bl false)
    | true =>
      have e123 := (e1.trans e2).trans e3
      exact hc rfl H0 G3 H3 σ (s.ext e123) e3.gh _ fun w G4 H4 e4 a4 => h2 rfl G4 H4 y w e4.gh (a2.up (e3.gg.trans e4.gg)) a4 Q fun v G5 H5 e5 a5 => q v G5 H5 ((e123.trans e4).trans e5) a5
theorem rv_lt {i j : Int} : RvD K rLtI (.int i) (.int j) (.bool (decide (i < j))) := rv_I0b
theorem rv_le {i j : Int} : RvD K rLeI (.int i) (.int j) (.bool (decide (i ≤ j))) := rv_I0b
/-- i <= j < k and i <= j <= k -/
theorem ev_leLt {i j k : Int} (ha : EvD K ta Γ (.int i)) (hb : EvD K tb Γ (.int j)) (hc : EvD K tc Γ (.int k)) : EvD K (tChain rLeI rLtI ta tb tc) Γ (.bool (decide (i ≤ j) && decide (j < k))) := ev_chain ha hb (fun _ => hc) rv_le (fun _ => rv_lt)
theorem ev_leLe {i j k : Int} (ha : EvD K ta Γ (.int i)) (hb : EvD K tb Γ (.int j)) (hc : EvD K tc Γ (.int k)) : EvD K (tChain rLeI rLeI ta tb tc) Γ (.bool (decide (i ≤ j) && decide (j ≤ k))) := ev_chain ha hb (fun _ => hc) rv_le (fun _ => rv_le)

/-! ### and, or, not as values; conditional expressions -/
theorem ev_and {a b : Bool} (ha : EvD K ta Γ (.bool a)) (hb : a = true → EvD K tb Γ (.bool b)) : EvD K (tAndV ta tb) Γ (.bool (a && b)) := fun H0 G H σ s gh Q q => ha H0 G H σ s gh _ fun x G1 H1 e1 a1 => by
  cases a1
  refine ⟨a, rfl, ?_⟩
  cases a with
  | true => exact hb rfl H0 G1 H1 σ (s.ext e1) e1.gh Q fun v G2 H2 e2 a2 => q v G2 H2 (e1.trans e2) a2
  | false => exact q _ G1 H1 e1 (.bl false)
theorem ev_or {a b : Bool} (ha : EvD K ta Γ (.bool a)) (hb : a = false → EvD K tb Γ (.bool b)) : EvD K (tOrV ta tb) Γ (.bool (a || b)) := fun H0 G H σ s gh Q q => ha H0 G H σ s gh _ fun x G1 H1 e1 a1 => by
  cases a1
  refine ⟨a, rfl, ?_⟩
  cases a with
  | false => exact hb rfl H0 G1 H1 σ (s.ext e1) e1.gh Q fun v G2 H2 e2 a2 => q v G2 H2 (e1.trans e2) a2
  | true => exact q _ G1 H1 e1 (.bl true)
theorem ev_not {a : Bool} (ha : EvD K ta Γ (.bool a)) : EvD K (tNotV ta) Γ (.bool (!a)) := fun H0 G H σ s gh Q q => ha H0 G H σ s gh _ fun x G1 H1 e1 a1 => by
  cases a1
  exact ⟨a, rfl, q _ G1 H1 e1 (.bl _)⟩
/-! ### tests -/
theorem et_test {b : Bool} (h : EvD K te Γ (.bool b)) : EvT K (tTest te) Γ b := fun H0 G H σ s gh Q q => h H0 G H σ s gh _ fun x G1 H1 e1 a1 => by
  cases a1; exact ⟨b, rfl, q G1 H1 e1⟩
theorem et_B {b : Bool} (h : EvD K te Γ (.bool b)) : EvT K (tB te) Γ b := fun H0 G H σ s gh Q q => h H0 G H σ s gh _ fun x G1 H1 e1 a1 => by
  cases a1; exact ⟨b, rfl, q G1 H1 e1⟩
theorem et_and {a b : Bool} (h1 : EvT K t Γ a) (h2 : a = true → EvT K u Γ b) : EvT K (tAnd t u) Γ (a && b) := fun H0 G H σ s gh Q q => h1 H0 G H σ s gh _ fun G1 H1 e1 => by
  cases a with
  | true => exact h2 rfl H0 G1 H1 σ (s.ext e1) e1.gh Q fun G2 H2 e2 => q G2 H2 (e1.trans e2)
  | false => exact q G1 H1 e1
theorem et_or {a b : Bool} (h1 : EvT K t Γ a) (h2 : a = false → EvT K u Γ b) : EvT K (tOr t u) Γ (a || b) := fun H0 G H σ s gh Q q => h1 H0 G H σ s gh _ fun G1 H1 e1 => by
  cases a with
  | false => exact h2 rfl H0 G1 H1 σ (s.ext e1) e1.gh Q fun G2 H2 e2 => q G2 H2 (e1.trans e2)
  | true => exact q G1 H1 e1
theorem et_not {a : Bool} (h1 : EvT K t Γ a) : EvT K (tNot t) Γ (!a) := fun H0 G H σ s gh Q q => h1 H0 G H σ s gh _ fun G1 H1 e1 => q G1 H1 e1
theorem et_yes : EvT K tYes Γ true := fun H0 G H σ s gh Q q => q G H (Ext.refl gh)
theorem ev_if {b : Bool} {d : PyData} (h : EvT K t Γ b) (h1 : b = true → EvD K ta Γ d) (h2 : b = false → EvD K tb Γ d) : EvD K (tIf t ta tb) Γ d := fun H0 G H σ s gh Q q => h H0 G H σ s gh _ fun G1 H1 e1 => by
  cases b with
  | true => exact h1 rfl H0 G1 H1 σ (s.ext e1) e1.gh Q fun v G2 H2 e2 a2 => q v G2 H2 (e1.trans e2) a2
  | false => exact h2 rfl H0 G1 H1 σ (s.ext e1) e1.gh Q fun v G2 H2 e2 a2 => q v G2 H2 (e1.trans e2) a2

/-! ### arguments, displays -/
theorem ea_nil : EvA K tNil Γ [] := fun H0 G H σ s gh Q q => q [] G H (Ext.refl gh) .nil
theorem ea_cons {tr : TA} {d : PyData} {ds : List PyData} (h : EvD K ta Γ d) (hr : EvA K tr Γ ds) : EvA K (tCons ta tr) Γ (d :: ds) := fun H0 G H σ s gh Q q =>
  h H0 G H σ s gh _ fun x G1 H1 e1 a1 => hr H0 G1 H1 σ (s.ext e1) e1.gh _ fun xs G2 H2 e2 a2 => q _ G2 H2 (e1.trans e2) (.cons (a1.up e2.gg) a2)
theorem eo_lst {ta : TA} {ds : List PyData} (h : EvA K ta Γ ds) (hl : ds.length ≤ 100000) : EvO K (tLst ta) Γ ds := fun H0 G H σ s gh Q q =>
  h H0 G H σ s gh _ fun vs G1 H1 e1 a1 => ⟨by rw [a1.length]; exact Nat.le_trans hl (by decide), fun p hp => q p vs G1 _ (e1.trans (Ext.own e1.gh hp)) (e1.hh.free hp) (e1.gh.free hp) upd_same a1⟩
theorem ev_tup {ta : TA} {ds : List PyData} (h : EvA K ta Γ ds) (hl : ds.length ≤ 100000) : EvD K (tTup ta) Γ (.tuple ds) := fun H0 G H σ s gh Q q =>
  h H0 G H σ s gh _ fun vs G1 H1 e1 a1 => ⟨by rw [a1.length]; exact Nat.le_trans hl (by decide), fun p hp => by
    have e2 : Ext G1 H1 (upd G1 p (.tup vs)) (upd H1 p (.tup vs)) := Ext.new e1.gh hp
    exact q _ _ _ (e1.trans e2) (.tup upd_same (a1.up e2.gg))⟩
theorem ep_none : EvP K tNoPart Γ none := fun H0 G H σ s gh Q q => q G H (Ext.refl gh)
theorem ep_some {i : Int} (h : EvD K te Γ (.int i)) : EvP K (tPart te) Γ (some i) := fun H0 G H σ s gh Q q => h H0 G H σ s gh _ fun x G1 H1 e1 a1 => by
  cases a1; exact ⟨i, rfl, q G1 H1 e1⟩
/-- the items of ds[lo:hi] -/
def cutD (ds : List PyData) (lo hi : Option Int) : List PyData := (ds.drop (HT.sIx ds.length 0 lo)).take (HT.sIx ds.length ds.length hi - HT.sIx ds.length 0 lo)
theorem eo_cut {tl th : TO} {ds : List PyData} {lo hi : Option Int} (h : EvD K te Γ (.list ds)) (h1 : EvP K tl Γ lo) (h2 : EvP K th Γ hi) : EvO K (tSl (rSlL K) te tl th) Γ (cutD ds lo hi) := fun H0 G H σ s gh Q q =>
  h H0 G H σ s gh _ fun x G1 H1 e1 a1 => h1 H0 G1 H1 σ (s.ext e1) e1.gh _ fun G2 H2 e2 => h2 H0 G2 H2 σ (s.ext (e1.trans e2)) e2.gh _ fun G3 H3 e3 => by
    have e := (e1.trans e2).trans e3
    cases a1 with
    | lst b1 b2 =>
      rename_i a xs
      have hx : H3 a = some (.lst xs) := e3.gh _ _ (e3.gg _ _ (e2.gg _ _ b1))
      refine ⟨a, xs, rfl, SqL.of hx, fun p hp => q p _ G3 _ (e.trans (Ext.own e3.gh hp)) (e.hh.free hp) (e3.gh.free hp) upd_same ?_⟩
      unfold cutV cutD
      rw [b2.length]
      exact ((b2.up (e2.gg.trans e3.gg)).drop _).take _
/-- a slice of the script -/
theorem eo_cutScr {tl th : TO} {ns : List Int} {lo hi : Option Int} (h : EvD K te Γ (scr ns)) (h1 : EvP K tl Γ lo) (h2 : EvP K th Γ hi) : EvO K (tSl (rSlL K) te tl th) Γ (cutD (ns.map .int) lo hi) := fun H0 G H σ s gh Q q =>
  h H0 G H σ s gh _ fun x G1 H1 e1 a1 => h1 H0 G1 H1 σ (s.ext e1) e1.gh _ fun G2 H2 e2 => h2 H0 G2 H2 σ (s.ext (e1.trans e2)) e2.gh _ fun G3 H3 e3 => by
    have e := (e1.trans e2).trans e3
    obtain ⟨a, rfl, b1⟩ := a1.scrI
    · have hx : SqL K H3 a (ns.map V.int) := (e2.gg.trans (e3.gg.trans e3.gh)).seq b1
      refine ⟨a, _, rfl, hx, fun p hp => q p _ G3 _ (e.trans (Ext.own e3.gh hp)) (e.hh.free hp) (e3.gh.free hp) upd_same ?_⟩
      unfold cutV cutD
      rw [List.length_map, List.length_map]
      exact ((atAll_ints ns).drop _).take _

/-! ### calls of built-ins, by values -/
/-- what a call gives on data -/
def RcD (K : PySem.W.Frag) (r : List V → Hp → VK → Prop) (ds : List PyData) (f : PyData) : Prop := ∀ (G H : Hp) (vs : List V), Same G H → AtAll K G vs ds → ∀ Q : VK, (∀ v G' H', Ext G H G' H' → At K G' v f → Q v H') → r vs H Q
def RcO (K : PySem.W.Frag) (r : List V → Hp → VK → Prop) (ds : List PyData) (fs : List PyData) : Prop := ∀ (G H : Hp) (vs : List V), Same G H → AtAll K G vs ds → ∀ Q : VK,
  (∀ p vs G' H', Ext G H G' H' → H p = none → G' p = none → H' p = some (.lst vs) → AtAll K G' vs fs → Q (.ref p) H') → r vs H Q
theorem ev_cb {r : List V → Hp → VK → Prop} {ta : TA} {ds : List PyData} {f : PyData} (h : EvA K ta Γ ds) (hr : RcD K r ds f) : EvD K (tCB r ta) Γ f := fun H0 G H σ s gh Q q =>
  h H0 G H σ s gh _ fun vs G1 H1 e1 a1 => hr G1 H1 vs e1.gh a1 Q fun v G2 H2 e2 a2 => q v G2 H2 (e1.trans e2) a2
theorem eo_cb {r : List V → Hp → VK → Prop} {ta : TA} {ds fs : List PyData} (h : EvA K ta Γ ds) (hr : RcO K r ds fs) : EvO K (tCB r ta) Γ fs := fun H0 G H σ s gh Q q =>
  h H0 G H σ s gh _ fun vs G1 H1 e1 a1 => hr G1 H1 vs e1.gh a1 Q fun p ws G2 H2 e2 hp gp h2 a2 => q p ws G2 H2 (e1.trans e2) (e1.hh.free hp) gp h2 a2
def rLenV (K : PySem.W.Frag) : List V → Hp → VK → Prop := fun xs H Q => ∃ x n, xs = [x] ∧ LenV K x H n ∧ Q (.int n) H
theorem ev_lenL {ds : List PyData} (ha : EvD K ta Γ (.list ds)) : EvD K (tCB (rLenV K) (tCons ta tNil)) Γ (.int (ds.length : Int)) := ev_cb (ea_cons ha ea_nil) fun G H vs gh a Q q => by
  cases a with
  | cons a1 a2 =>
    cases a2
    cases a1 with
    | lst b1 b2 =>
      rename_i l xs
      exact ⟨_, ds.length, rfl, .inl ⟨xs, SqL.of (gh _ _ b1), b2.length.symm⟩, q _ G H (Ext.refl gh) (.int _)⟩
theorem ev_lenT {ds : List PyData} (ha : EvD K ta Γ (.tuple ds)) : EvD K (tCB (rLenV K) (tCons ta tNil)) Γ (.int (ds.length : Int)) := ev_cb (ea_cons ha ea_nil) fun G H vs gh a Q q => by
  cases a with
  | cons a1 a2 =>
    cases a2
    cases a1 with
    | tup b1 b2 =>
      rename_i l xs
      exact ⟨_, ds.length, rfl, .inr ⟨xs, SqT.of (gh _ _ b1), b2.length.symm⟩, q _ G H (Ext.refl gh) (.int _)⟩
theorem ev_lenScr {ns : List Int} (ha : EvD K ta Γ (scr ns)) : EvD K (tCB (rLenV K) (tCons ta tNil)) Γ (.int (ns.length : Int)) := ev_cb (ea_cons ha ea_nil) fun G H vs gh a Q q => by
  cases a with
  | cons a1 a2 =>
    cases a2
    obtain ⟨a, rfl, b1⟩ := a1.scrI
    · exact ⟨_, ns.length, rfl, .inl ⟨_, gh.seq b1, by simp⟩, q _ G H (Ext.refl gh) (.int _)⟩
theorem ev_lenS {z : Str} (ha : EvD K ta Γ (.str z)) (hz : z.length ≤ sizeLine) : EvD K (tCB (rLenV K) (tCons ta tNil)) Γ (.int (z.length : Int)) := ev_cb (ea_cons ha ea_nil) fun G H vs gh a Q q => by
  cases a with
  | cons a1 a2 =>
    cases a2
    cases a1
    exact ⟨_, z.length, rfl, ⟨hz, rfl⟩, q _ G H (Ext.refl gh) (.int _)⟩
def rListV (K : PySem.W.Frag) : List V → Hp → VK → Prop := fun xs H Q => ∃ p ys, xs = [.ref p] ∧ (SqL K H p ys ∨ SqT K H p ys) ∧ ∀ l, H l = none → Q (.ref l) (upd H l (.lst ys))
theorem eo_list {ds : List PyData} (ha : EvD K ta Γ (.list ds)) : EvO K (tCB (rListV K) (tCons ta tNil)) Γ ds := eo_cb (ea_cons ha ea_nil) fun G H vs gh a Q q => by
  cases a with
  | cons a1 a2 =>
    cases a2
    cases a1 with
    | lst b1 b2 =>
      rename_i l xs
      exact ⟨l, xs, rfl, .inl (SqL.of (gh _ _ b1)), fun p hp => q p xs G _ (Ext.own gh hp) hp (gh.free hp) upd_same b2⟩
theorem eo_listT {ds : List PyData} (ha : EvD K ta Γ (.tuple ds)) : EvO K (tCB (rListV K) (tCons ta tNil)) Γ ds := eo_cb (ea_cons ha ea_nil) fun G H vs gh a Q q => by
  cases a with
  | cons a1 a2 =>
    cases a2
    cases a1 with
    | tup b1 b2 =>
      rename_i l xs
      exact ⟨l, xs, rfl, .inr (SqT.of (gh _ _ b1)), fun p hp => q p xs G _ (Ext.own gh hp) hp (gh.free hp) upd_same b2⟩
def rTupleV (K : PySem.W.Frag) : List V → Hp → VK → Prop := fun xs H Q => ∃ p ys, xs = [.ref p] ∧ ((SqL K H p ys ∧ ∀ l, H l = none → Q (.ref l) (upd H l (.tup ys))) ∨ (SqT K H p ys ∧ Q (.ref p) H))
theorem ev_tuple {ds : List PyData} (ha : EvD K ta Γ (.list ds)) : EvD K (tCB (rTupleV K) (tCons ta tNil)) Γ (.tuple ds) := ev_cb (ea_cons ha ea_nil) fun G H vs gh a Q q => by
  cases a with
  | cons a1 a2 =>
    cases a2
    cases a1 with
    | lst b1 b2 =>
      rename_i l xs
      refine ⟨l, xs, rfl, .inl ⟨SqL.of (gh _ _ b1), fun p hp => ?_⟩⟩
      have e2 : Ext G H (upd G p (.tup xs)) (upd H p (.tup xs)) := Ext.new gh hp
      exact q _ _ _ e2 (.tup upd_same (b2.up e2.gg))
/-- sum, max, all -/
theorem ev_sum {ns : List Int} (ha : EvD K ta Γ (.list (ns.map .int))) : EvD K (tCB (rSum K) (tCons ta tNil)) Γ (.int ns.sum) := ev_cb (ea_cons ha ea_nil) fun G H vs gh a Q q => by
  cases a with
  | cons a1 a2 =>
    cases a2
    cases a1 with
    | lst b1 b2 =>
      rename_i l xs
      have e := b2.ints
      subst e
      exact ⟨l, ns, rfl, SqL.of (gh _ _ b1), q _ G H (Ext.refl gh) (.int _)⟩
theorem ev_all {bs : List Bool} (ha : EvD K ta Γ (.list (bs.map .bool))) : EvD K (tCB (rAll K) (tCons ta tNil)) Γ (.bool (bs.all id)) := ev_cb (ea_cons ha ea_nil) fun G H vs gh a Q q => by
  cases a with
  | cons a1 a2 =>
    cases a2
    cases a1 with
    | lst b1 b2 =>
      rename_i l xs
      have e := b2.bools
      subst e
      exact ⟨l, bs, rfl, SqL.of (gh _ _ b1), q _ G H (Ext.refl gh) (.bl _)⟩
/-- the greatest of some -/
def maxL : List Int → Int
  | [] => 0
  | [x] => x
  | x :: y :: r => max x (maxL (y :: r))
theorem maxL_mem : ∀ {ns : List Int}, ns ≠ [] → maxL ns ∈ ns
  | [], h => absurd rfl h
  | [x], _ => by simp [maxL]
  | x :: y :: r, _ => by
    have ih := maxL_mem (ns := y :: r) (by simp)
    show max x (maxL (y :: r)) ∈ _
    by_cases z : x ≤ maxL (y :: r)
    · rw [show max x (maxL (y :: r)) = maxL (y :: r) by omega]; exact List.mem_cons_of_mem _ ih
    · rw [show max x (maxL (y :: r)) = x by omega]; exact List.mem_cons_self
theorem le_maxL : ∀ {ns : List Int} {x : Int}, x ∈ ns → x ≤ maxL ns
  | [], x, h => by cases h
  | [y], x, h => by have : x = y := by simpa using h
                    subst this; exact Int.le_refl _
  | y :: z :: r, x, h => by
    show x ≤ max y (maxL (z :: r))
    rcases List.mem_cons.mp h with e | e
    · omega
    · have := le_maxL (ns := z :: r) e; omega
theorem ev_max {ns : List Int} (ha : EvD K ta Γ (.list (ns.map .int))) (hn : ns ≠ []) : EvD K (tCB (rMax K) (tCons ta tNil)) Γ (.int (maxL ns)) := ev_cb (ea_cons ha ea_nil) fun G H vs gh a Q q => by
  cases a with
  | cons a1 a2 =>
    cases a2
    cases a1 with
    | lst b1 b2 =>
      rename_i l xs
      have e := b2.ints
      subst e
      refine ⟨l, ns, rfl, SqL.of (gh _ _ b1), List.length_pos_iff.mpr hn, fun m hm hle => ?_⟩
      have e : m = maxL ns := Int.le_antisymm (le_maxL hm) (hle _ (maxL_mem hn))
      subst e
      exact q _ G H (Ext.refl gh) (.int _)
def rMax2V : List V → Hp → VK → Prop := fun xs H Q => ∃ i j, xs = [.int i, .int j] ∧ Q (.int (if j > i then j else i)) H
def rMin2V : List V → Hp → VK → Prop := fun xs H Q => ∃ i j, xs = [.int i, .int j] ∧ Q (.int (if j < i then j else i)) H
theorem ev_max2 {i j : Int} (ha : EvD K ta Γ (.int i)) (hb : EvD K tb Γ (.int j)) : EvD K (tCB rMax2V (tCons ta (tCons tb tNil))) Γ (.int (max i j)) := ev_cb (ea_cons ha (ea_cons hb ea_nil)) fun G H vs gh a Q q => by
  cases a with
  | cons a1 a2 =>
    cases a1
    cases a2 with
    | cons a2 a3 =>
      cases a2
      cases a3
      refine ⟨i, j, rfl, ?_⟩
      rw [show (if j > i then j else i) = max i j by split <;> omega]
      exact q _ G H (Ext.refl gh) (.int _)
theorem ev_min2 {i j : Int} (ha : EvD K ta Γ (.int i)) (hb : EvD K tb Γ (.int j)) : EvD K (tCB rMin2V (tCons ta (tCons tb tNil))) Γ (.int (min i j)) := ev_cb (ea_cons ha (ea_cons hb ea_nil)) fun G H vs gh a Q q => by
  cases a with
  | cons a1 a2 =>
    cases a1
    cases a2 with
    | cons a2 a3 =>
      cases a2
      cases a3
      refine ⟨i, j, rfl, ?_⟩
      rw [show (if j < i then j else i) = min i j by split <;> omega]
      exact q _ G H (Ext.refl gh) (.int _)
def rInt1V : List V → Hp → VK → Prop := fun xs H Q => (∃ i, xs = [.int i] ∧ Q (.int i) H) ∨ ∃ k, xs = [.bl k] ∧ Q (.int (if k then 1 else 0)) H
theorem ev_intB {k : Bool} (ha : EvD K ta Γ (.bool k)) : EvD K (tCB rInt1V (tCons ta tNil)) Γ (.int (if k then 1 else 0)) := ev_cb (ea_cons ha ea_nil) fun G H vs gh a Q q => by
  cases a with
  | cons a1 a2 =>
    cases a1
    cases a2
    exact .inr ⟨k, rfl, q _ G H (Ext.refl gh) (.int _)⟩
/-- isinstance(x, T) -/
def tyD : PyData → String
  | .none => "NoneType"
  | .bool _ => "bool"
  | .int _ => "int"
  | .str _ => "str"
  | .list _ => "list"
  | .tuple _ => "tuple"
  | .dict [] => "dict"
  | .dict _ => "list"
theorem At.ty {K : PySem.W.Frag} {G H : Hp} (gh : Same G H) {v : V} {d : PyData} (h : At K G v d) : TyX K H v (.type (tyD d)) := by
  cases h with
  | non => exact .base .non
  | bl b => exact .base (.bl b)
  | int i => exact .base (.int i)
  | str x => exact .base (.str x)
  | lst h1 _ => exact .base (.lst (gh _ _ h1))
  | tup h1 _ => exact .base (.tup (gh _ _ h1))
  | dic h1 => exact .base (.dK (gh _ _ h1))
  | scr h1 _ =>
    rcases gh.seq h1 with (z | ⟨o, z⟩) | ⟨o, its, n, z, c, _⟩
    · exact .base (.lst z)
    · exact .base (.frz z)
    · exact .kList z c
theorem ev_isi {d : PyData} {n : String} {b : Bool} (ha : EvD K ta Γ d) (h : kitB (tyD d) n = some b) : EvD K (tCB (rIsi K) (tCons ta (tCons (tC (.ty n)) tNil))) Γ (.bool b) := fun H0 G H σ s gh Q q =>
  ha H0 G H σ s gh _ fun v G1 H1 e1 a1 => ⟨v, .ty n, _, _, b, rfl, .ty n, a1.ty e1.gh, kit_ty h, q _ G1 H1 e1 (.bl b)⟩

/-! ### in -/
def rInV (K : PySem.W.Frag) (neg : Bool) : R2 := rIn K neg
theorem flat_at {K : PySem.W.Frag} {G : Hp} {v : V} {d : PyData} (s : scal d = true) (h : At K G v d) : flatV v = true := by
  cases h <;> first | rfl | (simp [scal] at s)
theorem all_flat {K : PySem.W.Frag} {G : Hp} {ns : List Int} : (ns.map V.int).all flatV = true := by
  induction ns with
  | nil => rfl
  | cons n ns ih => rw [List.map_cons, List.all_cons, ih]; rfl
theorem inV_ints {i : Int} {ns : List Int} : inV (.int i) (ns.map V.int) = decide (i ∈ ns) := by
  unfold inV
  induction ns with
  | nil => simp
  | cons n ns ih =>
    rw [List.map_cons, List.any_cons, ih]
    show ((n == i) || decide (i ∈ ns)) = _
    by_cases z : n = i
    · subst z; simp
    · have z' : ¬ i = n := fun y => z y.symm
      simp [z, z']
theorem ev_inI {i : Int} {ns : List Int} (ha : EvD K ta Γ (.int i)) (hb : EvD K tb Γ (.list (ns.map .int))) : EvD K (tOp (rIn K false) ta tb) Γ (.bool (decide (i ∈ ns))) := ev_op ha hb fun G H x y gh a b Q q => by
  cases a
  cases b with
  | lst b1 b2 =>
    have e := b2.ints
    subst e
    refine ⟨_, _, rfl, .inl (SqL.of (gh _ _ b1)), rfl, all_flat (K := K) (G := G), ?_⟩
    rw [inV_ints]
    exact q _ G H (Ext.refl gh) (.bl _)
theorem ev_ninI {i : Int} {ns : List Int} (ha : EvD K ta Γ (.int i)) (hb : EvD K tb Γ (.list (ns.map .int))) : EvD K (tOp (rIn K true) ta tb) Γ (.bool (!decide (i ∈ ns))) := ev_op ha hb fun G H x y gh a b Q q => by
  cases a
  cases b with
  | lst b1 b2 =>
    have e := b2.ints
    subst e
    refine ⟨_, _, rfl, .inl (SqL.of (gh _ _ b1)), rfl, all_flat (K := K) (G := G), ?_⟩
    rw [inV_ints]
    exact q _ G H (Ext.refl gh) (.bl _)
/-- in a list of data at any depth -/
theorem ev_ninD {d : PyData} {ds : List PyData} (ha : EvD K ta Γ d) (hb : EvD K tb Γ (.list ds)) (sd : SeqAt.shaped d = true) (se : SeqAt.shaped (.list ds) = true) : EvD K (tOp (rNotInD K) ta tb) Γ (.bool (!ds.any fun z => PyData.eqv z d)) :=
  ev_op ha hb fun G H x y gh a b Q q => ⟨d, ds, dp_up gh a sd, dp_up gh b se, sd, se, q _ G H (Ext.refl gh) (.bl _)⟩
theorem ev_inD {d : PyData} {ds : List PyData} (ha : EvD K ta Γ d) (hb : EvD K tb Γ (.list ds)) (sd : SeqAt.shaped d = true) (se : SeqAt.shaped (.list ds) = true) : EvD K (tOp (rInD K) ta tb) Γ (.bool (ds.any fun z => PyData.eqv z d)) :=
  ev_op ha hb fun G H x y gh a b Q q => ⟨d, ds, dp_up gh a sd, dp_up gh b se, sd, se, q _ G H (Ext.refl gh) (.bl _)⟩
end
end PD

set_option Elab.async false
set_option linter.all false
set_option maxRecDepth 100000
set_option maxHeartbeats 1000000
/-! Targets, comprehensions, contracts, statements over data. -/
namespace PD
open PySem L2

/-! ### targets -/
def TgD (K : PySem.W.Frag) (g : TG) (d : PyData) (Γ Γ' : Env) (ws : List Nat) : Prop := ∀ (H0 G H : Hp) (σ : St) (v : V), Sat K H0 G H σ Γ → Same G H → At K G v d → ∀ Q : St → Hp → Prop,
  (∀ σ', Sat K H0 G H σ' Γ' → σ'.length = σ.length → (∀ i, i ∉ ws → σ'[i]? = σ[i]?) → Q σ' H) → g v σ H Q
section
variable {K : PySem.W.Frag} {Γ Γ' : Env}
theorem tg_name {j : Nat} {d : PyData} : TgD K (gName j) d Γ (Γ.set j (.da d)) [j] := fun H0 G H σ v s gh a Q q =>
  q _ (s.setD a) (by simp) fun i hi => List.getElem?_set_ne (fun e => hi (by simp [e]))
theorem tg_tup2 {i j : Nat} {d e : PyData} : TgD K (gTup K 2 (gCons (gName i) (gCons (gName j) gNil))) (.tuple [d, e]) Γ ((Γ.set i (.da d)).set j (.da e)) [i, j] := fun H0 G H σ v s gh a Q q => by
  cases a with
  | tup h1 h2 =>
    cases h2 with
    | cons a1 a2 =>
      cases a2 with
      | cons a3 a4 =>
        cases a4
        refine ⟨_, _, rfl, SqT.of (gh _ _ h1), rfl, _, _, rfl, _, _, rfl, rfl, ?_⟩
        refine q _ ((s.setD a1).setD a3) (by simp) fun k hk => ?_
        have n1 : ¬ i = k := fun e => hk (by simp [e])
        have n2 : ¬ j = k := fun e => hk (by simp [e])
        rw [List.getElem?_set_ne n2, List.getElem?_set_ne n1]
end

/-! ### comprehensions -/
def wipeE (Γ : Env) : List Nat → Env
  | [] => Γ
  | v :: vs => (wipeE Γ vs).set v .no
theorem Sat.wipe {K : PySem.W.Frag} {H0 G H : Hp} {σ : St} {Γ : Env} (s : Sat K H0 G H σ Γ) : ∀ vs : List Nat, Sat K H0 G H (L2.wipe σ vs) (wipeE Γ vs)
  | [] => s
  | v :: vs => (Sat.wipe s vs).setN
theorem wipe_get (σ : St) (i : Nat) : ∀ vs : List Nat, (L2.wipe σ vs)[i]? = if i ∈ vs ∧ i < σ.length then some none else σ[i]?
  | [] => by simp [L2.wipe]
  | v :: vs => by
    unfold L2.wipe
    by_cases z : v = i
    · subst z
      by_cases hl : v < σ.length
      · rw [List.getElem?_set_self (by rw [wipe_length]; exact hl), if_pos ⟨List.mem_cons_self, hl⟩]
      · rw [if_neg (fun h => hl h.2), List.getElem?_eq_none (by rw [List.length_set, wipe_length]; omega), List.getElem?_eq_none (by omega)]
    · rw [List.getElem?_set_ne z, wipe_get σ i vs]
      have e : (i ∈ v :: vs) ↔ i ∈ vs := by
        rw [List.mem_cons]
        exact ⟨fun h => h.elim (fun y => absurd y.symm z) id, .inr⟩
      simp only [e]
theorem wipe_same {σ τ : St} {vs : List Nat} (hl : τ.length = σ.length) (h : ∀ i, i ∉ vs → τ[i]? = (L2.wipe σ vs)[i]?) : L2.wipe τ vs = L2.wipe σ vs := by
  refine List.ext_getElem? fun i => ?_
  rw [wipe_get, wipe_get]
  by_cases z : i ∈ vs
  · rw [hl]
    by_cases y : i < σ.length
    · rw [if_pos ⟨z, y⟩, if_pos ⟨z, y⟩]
    · rw [if_neg (fun q => y q.2), if_neg (fun q => y q.2), List.getElem?_eq_none (by omega), List.getElem?_eq_none (by omega)]
  · rw [if_neg (fun q => z q.1), if_neg (fun q => z q.1), h i z, wipe_get, if_neg (fun q => z q.1)]
section
variable {K : PySem.W.Frag} {Γ : Env} {ta tl te : TE} {tt : TT} {g : TG} {vs : List Nat}
/-- the new list D within a comprehension, behind the turns' results es -/
def Cw (K : PySem.W.Frag) (G1 H1 : Hp) (D : Addr) (es : List PyData) (H : Hp) : Prop := ∃ (G : Hp) (acc : List V), Ext G1 H1 G H ∧ H D = some (.lst acc) ∧ G D = none ∧ AtAll K G acc es
theorem cw_start {G1 H1 : Hp} {D : Addr} (gh : Same G1 H1) (hD : H1 D = none) : Cw K G1 H1 D [] (upd H1 D (.lst [])) := ⟨G1, [], Ext.own gh hD, upd_same, gh.free hD, .nil⟩
theorem cw_turn {H0 G1 H1 H : Hp} {D : Addr} {es : List PyData} {σ : St} {b : Bool} {d e : PyData} {v : V} {Γ' : Env} (hD : H1 D = none) (s : Sat K H0 G1 H1 σ Γ) (p : Cw K G1 H1 D es H) (hz : es.length ≤ 100000) (a : At K G1 v d)
    (hg : TgD K g d (wipeE Γ vs) Γ' vs) (ht : EvT K tt Γ' b) (he : b = true → EvD K te Γ' e) {Nx : Hp → Prop}
    (h1 : b = true → ∀ H', Cw K G1 H1 D (es ++ [e]) H' → Nx H') (h2 : b = false → ∀ H', Cw K G1 H1 D es H' → Nx H') :
    g v (L2.wipe σ vs) H fun σ2 H2 => L2.wipe σ2 vs = L2.wipe σ vs ∧ tt σ2 H2 fun b H3 => if b = true then te σ2 H3 fun y H4 => ∃ acc, H4 D = some (.lst acc) ∧ acc.length < sizeLine ∧ Nx (upd H4 D (.lst (acc ++ [y]))) else Nx H3 := by
  obtain ⟨G, acc, ex, hd, gd, ha⟩ := p
  refine hg H0 G H _ v ((s.ext ex).wipe vs) ex.gh (a.up ex.gg) _ fun σ2 s2 l2 k2 => ⟨wipe_same (by rw [l2, wipe_length]) k2, ?_⟩
  refine ht H0 G H σ2 s2 ex.gh _ fun G3 H3 e3 => ?_
  have g3 : G3 D = none := e3.fr D gd (by rw [hd]; exact fun z => nomatch z)
  have d3 : H3 D = some (.lst acc) := e3.hh _ _ hd
  cases b with
  | false =>
    show Nx H3
    exact h2 rfl H3 ⟨G3, acc, ex.trans e3, d3, g3, ha.up e3.gg⟩
  | true =>
    show te σ2 H3 _
    refine he rfl H0 G3 H3 σ2 (s2.ext e3) e3.gh _ fun y G4 H4 e4 a4 => ?_
    have g4 : G4 D = none := e4.fr D g3 (by rw [d3]; exact fun z => nomatch z)
    have e14 := (ex.trans e3).trans e4
    have hlen := ha.length
    refine ⟨acc, e4.hh _ _ d3, by rw [hlen]; exact Nat.lt_of_le_of_lt hz (by decide), h1 rfl _ ⟨G4, acc ++ [y], ⟨fun c x q => ?_, e14.gg, fun c x q => ?_, e14.fr⟩, upd_same, g4, (ha.up (e3.gg.trans e4.gg)).snoc a4⟩⟩
    · rw [upd_ne (ne_of_none q hD)]; exact e14.hh _ _ q
    · rw [upd_ne (ne_of_none q g4)]; exact e14.gh _ _ q
theorem take_more {α : Type} {l : List α} {i : Nat} {x : α} (h : l[i]? = some x) : l.take (i + 1) = l.take i ++ [x] := by
  rw [List.take_add_one, h]; rfl
/-- [f x for target in xs if b x] -/
theorem eo_lcL {α : Type} (xs : List α) (emb : α → PyData) (b : α → Bool) (f : α → PyData) (Γx : α → Env) (h : EvD K tl Γ (.list (xs.map emb))) (hz : xs.length ≤ 100000)
    (hg : ∀ x ∈ xs, TgD K g (emb x) (wipeE Γ vs) (Γx x) vs) (ht : ∀ x ∈ xs, EvT K tt (Γx x) (b x)) (he : ∀ x ∈ xs, b x = true → EvD K te (Γx x) (f x)) : EvO K (tLc (iList K tl) g tt te vs) Γ ((xs.filter b).map f) := fun H0 G H σ s gh Q q =>
  h H0 G H σ s gh _ fun v G1 H1 e1 a1 => by
    cases a1 with
    | lst l1 l2 =>
      rename_i l us
      refine ⟨l, rfl, ⟨us, SqL.of (e1.gh _ _ l1)⟩, fun D hD => ?_⟩
      refine lc_list (xs := us) (fun i H' => Cw K G1 H1 D (((xs.take i).filter b).map f) H') (cw_start e1.gh hD) (fun i H' _ p => ?_) (fun i v H' hi p => ?_) (fun H' p => ?_)
      · obtain ⟨G', acc, ex, _⟩ := p
        exact SqL.of (ex.gh _ _ (ex.gg _ _ l1))
      · obtain ⟨d, hd, ad⟩ := l2.getV hi
        rw [List.getElem?_map] at hd
        obtain ⟨x, hx, rfl⟩ := Option.map_eq_some_iff.mp hd
        have hm : x ∈ xs := List.mem_of_getElem? hx
        refine cw_turn hD (s.ext e1) p ?_ ad (hg x hm) (ht x hm) (he x hm) (fun hb H' c => ?_) (fun hb H' c => ?_)
        · rw [List.length_map]
          exact Nat.le_trans (List.length_filter_le _ _) (Nat.le_trans (by rw [List.length_take]; omega) hz)
        · rw [take_more hx, List.filter_append, List.map_append]
          simpa [hb] using c
        · rw [take_more hx, List.filter_append, List.map_append]
          simpa [hb] using c
      · obtain ⟨G', acc, ex, hd, gd, ha⟩ := p
        have hl : us.length = xs.length := by rw [l2.length, List.length_map]
        rw [hl, List.take_length] at ha
        exact q D acc G' H' (e1.trans ex) (e1.hh.free hD) gd hd ha
/-- over range(n) -/
theorem eo_lcR {ta : TA} {n : Int} (b : Nat → Bool) (f : Nat → PyData) (Γx : Nat → Env) (h : EvA K ta Γ [.int n]) (hn : 0 ≤ n ∧ n ≤ 100000)
    (hg : ∀ i : Nat, (i : Int) < n → TgD K g (.int (i : Int)) (wipeE Γ vs) (Γx i) vs) (ht : ∀ i : Nat, (i : Int) < n → EvT K tt (Γx i) (b i)) (he : ∀ i : Nat, (i : Int) < n → b i = true → EvD K te (Γx i) (f i)) :
    EvO K (tLc (iRng1 ta) g tt te vs) Γ (((List.range n.toNat).filter b).map f) := fun H0 G H σ s gh Q q =>
  h H0 G H σ s gh _ fun us G1 H1 e1 a1 => by
    have eu : us = [.int n] := (show AtAll K G1 us ([n].map .int) from a1).ints
    subst eu
    refine ⟨n, rfl, by omega, by omega, fun D hD => ?_⟩
    refine lc_range (lo := 0) (n := n.toNat) (fun i H' => Cw K G1 H1 D (((List.range i).filter b).map f) H') (cw_start e1.gh hD) (fun i H' hi p => ?_) (fun H' p => ?_)
    · have hi' : (i : Int) < n := by omega
      have e0 : (0 : Int) + (i : Int) = (i : Int) := Int.zero_add _
      show g (.int ((0 : Int) + (i : Int))) (L2.wipe σ vs) H' _
      rw [e0]
      refine cw_turn hD (s.ext e1) p ?_ (.int _) (hg i hi') (ht i hi') (he i hi') (fun hb H' c => ?_) (fun hb H' c => ?_)
      · rw [List.length_map]
        exact Nat.le_trans (List.length_filter_le _ _) (by rw [List.length_range]; omega)
      · rw [List.range_succ, List.filter_append, List.map_append]
        simpa [hb] using c
      · rw [List.range_succ, List.filter_append, List.map_append]
        simpa [hb] using c
    · obtain ⟨G', acc, ex, hd, gd, ha⟩ := p
      exact q D acc G' H' (e1.trans ex) (e1.hh.free hD) gd hd ha
theorem filter_yes {α : Type} (xs : List α) : xs.filter (fun _ => true) = xs := by simp
/-- [f x for x in xs] -/
theorem eo_mapL {α : Type} {j : Nat} (xs : List α) (emb : α → PyData) (f : α → PyData) (h : EvD K tl Γ (.list (xs.map emb))) (hz : xs.length ≤ 100000)
    (he : ∀ x ∈ xs, EvD K te ((wipeE Γ [j]).set j (.da (emb x))) (f x)) : EvO K (tLc (iList K tl) (gName j) tYes te [j]) Γ (xs.map f) := by
  have r := eo_lcL (tt := tYes) (g := gName j) (vs := [j]) xs emb (fun _ => true) f (fun x => (wipeE Γ [j]).set j (.da (emb x))) h hz (fun x _ => tg_name) (fun x _ => et_yes) (fun x hx _ => he x hx)
  rwa [filter_yes] at r
theorem eo_mapR {ta : TA} {j : Nat} {n : Int} (f : Nat → PyData) (h : EvA K ta Γ [.int n]) (hn : 0 ≤ n ∧ n ≤ 100000)
    (he : ∀ i : Nat, (i : Int) < n → EvD K te ((wipeE Γ [j]).set j (.da (.int (i : Int)))) (f i)) : EvO K (tLc (iRng1 ta) (gName j) tYes te [j]) Γ ((List.range n.toNat).map f) := by
  have r := eo_lcR (tt := tYes) (g := gName j) (vs := [j]) (fun _ => true) f (fun i => (wipeE Γ [j]).set j (.da (.int (i : Int)))) h hn (fun x _ => tg_name) (fun x _ => et_yes) (fun x hx _ => he x hx)
  rwa [filter_yes] at r
theorem eo_filL {α : Type} {j : Nat} (xs : List α) (emb : α → PyData) (b : α → Bool) (f : α → PyData) (h : EvD K tl Γ (.list (xs.map emb))) (hz : xs.length ≤ 100000)
    (ht : ∀ x ∈ xs, EvT K tt ((wipeE Γ [j]).set j (.da (emb x))) (b x)) (he : ∀ x ∈ xs, b x = true → EvD K te ((wipeE Γ [j]).set j (.da (emb x))) (f x)) : EvO K (tLc (iList K tl) (gName j) tt te [j]) Γ ((xs.filter b).map f) :=
  eo_lcL xs emb b f _ h hz (fun x _ => tg_name) ht he
end

/-! ### frozen for a moment -/
def frz1 : Sl → Sl
  | .ow ds => .da (.list ds)
  | .da d => .da d
  | .fx v o => .fx v o
  | _ => .no
def frz (Γ : Env) : Env := Γ.map frz1
open Classical in
/-- the known part, with the lists that slots own -/
theorem Sat.frz {K : PySem.W.Frag} {H0 G H : Hp} {σ : St} {Γ : Env} (s : Sat K H0 G H σ Γ) (gh : Same G H) : ∃ G2, Same G G2 ∧ Same G2 H ∧ Sat K H0 G2 H σ (PD.frz Γ) ∧ (∀ a, G a = none → G2 a ≠ none → H0 a = none ∧ ∃ us, H a = some (.lst us)) := by
  -- by the places of the slots, all at once: an address is known where it is, or where a slot owns it
  refine ⟨fun a => match G a with | some o => some o | none => if (∃ (i : Nat) (ds : List PyData), Γ[i]? = some (Sl.ow ds) ∧ σ[i]? = some (some (V.ref a))) then H a else none, ?_, ?_, ?_, ?_⟩
  · intro a o e; show (match G a with | some o => some o | none => _) = _; rw [e]
  · intro a o e
    cases q : G a with
    | some u => simp only [q] at e; cases e; exact gh a _ q
    | none =>
      simp only [q] at e
      split at e
      · exact e
      · cases e
  · have up : ∀ a o, G a = some o → (match G a with | some o => some o | none => if (∃ (i : Nat) (ds : List PyData), Γ[i]? = some (Sl.ow ds) ∧ σ[i]? = some (some (V.ref a))) then H a else none) = some o := fun a o e => by rw [e]
    have nod : ∀ {i : Nat} {ks : List Int}, ¬ (PD.frz Γ)[i]? = some (.od ks) := fun {i ks} q => by
      unfold PD.frz at q
      rw [List.getElem?_map] at q
      obtain ⟨x, hx, e⟩ := Option.map_eq_some_iff.mp q
      cases x <;> cases e
    refine ⟨by simp [PD.frz, s.len], fun i d q => ?_, fun i ds q => ?_, fun i j di dj p q1 q2 => ?_, fun i ks q => absurd q nod, fun i j di dj p q => absurd q nod, fun i v o q => ?_⟩
    · unfold PD.frz at q
      rw [List.getElem?_map] at q
      obtain ⟨x, hx, e⟩ := Option.map_eq_some_iff.mp q
      cases x with
      | no => cases e
      | od ks => cases e
      | fx v o => cases e
      | da d' =>
        cases e
        obtain ⟨v, h1, h2⟩ := s.da i d hx
        exact ⟨v, h1, h2.up up⟩
      | ow ds =>
        cases e
        obtain ⟨p, vs, h1, h2, h3, h4, h5⟩ := s.ow i ds hx
        refine ⟨_, h1, .lst (xs := vs) ?_ (h5.up up)⟩
        show (match G p with | some o => some o | none => if (∃ (i : Nat) (ds : List PyData), Γ[i]? = some (Sl.ow ds) ∧ σ[i]? = some (some (V.ref p))) then H p else none) = _
        rw [h3]
        simp only
        rw [if_pos ⟨i, ds, hx, h1⟩]
        exact h2
    · unfold PD.frz at q
      rw [List.getElem?_map] at q
      obtain ⟨x, hx, e⟩ := Option.map_eq_some_iff.mp q
      cases x <;> cases e
    · unfold PD.frz at q1
      rw [List.getElem?_map] at q1
      obtain ⟨x, hx, e⟩ := Option.map_eq_some_iff.mp q1
      cases x <;> cases e
    · unfold PD.frz at q
      rw [List.getElem?_map] at q
      obtain ⟨x, hx, e⟩ := Option.map_eq_some_iff.mp q
      cases x <;> cases e
      exact ⟨(s.fx i _ _ hx).1, fun d z => ((s.fx i _ _ hx).2 d z).up up⟩
  · intro a ga g2
    simp only [ga] at g2
    split at g2
    · rename_i hh
      obtain ⟨i, ds, h1, h2⟩ := hh
      obtain ⟨p, vs, k1, k2, k3, k4, k5⟩ := s.ow i ds h1
      rw [h2] at k1; cases k1
      exact ⟨k4, vs, k2⟩
    · exact absurd rfl g2
section
variable {K : PySem.W.Frag} {Γ : Env} {te : TE} {tt : TT}
theorem ev_frz {d : PyData} (h : EvD K te (frz Γ) d) (hs : scal d = true := by rfl) : EvD K te Γ d := fun H0 G H σ s gh Q q => by
  obtain ⟨G2, g1, g2, s2, _⟩ := s.frz gh
  exact h H0 G2 H σ s2 g2 Q fun v G' H' e a => q v G H' (Ext.grow gh e.hh) (a.scal hs)
theorem et_frz {b : Bool} (h : EvT K tt (frz Γ) b) : EvT K tt Γ b := fun H0 G H σ s gh Q q => by
  obtain ⟨G2, g1, g2, s2, _⟩ := s.frz gh
  exact h H0 G2 H σ s2 g2 Q fun G' H' e => q G H' (Ext.grow gh e.hh)
theorem AtAll.scal {G G' : Hp} : ∀ {ds : List PyData} {vs : List V}, (∀ d ∈ ds, PD.scal d = true) → AtAll K G vs ds → AtAll K G' vs ds
  | [], _, _, h => by cases h; exact .nil
  | d :: ds, _, hs, h => by
    cases h with
    | cons h1 h2 => exact .cons (h1.scal (hs d List.mem_cons_self)) (AtAll.scal (fun e he => hs e (List.mem_cons_of_mem _ he)) h2)
theorem eo_frz {ds : List PyData} (h : EvO K te (frz Γ) ds) (hs : ∀ d ∈ ds, scal d = true) : EvO K te Γ ds := fun H0 G H σ s gh Q q => by
  obtain ⟨G2, g1, g2, s2, _⟩ := s.frz gh
  exact h H0 G2 H σ s2 g2 Q fun p vs G' H' e hp gp hp' ha => q p vs G H' (Ext.grow gh e.hh) hp (g1.free (e.gg.free gp)) hp' (ha.scal hs)
theorem scal_ints {ns : List Int} : ∀ d ∈ ns.map PyData.int, scal d = true := fun d h => by
  obtain ⟨n, _, rfl⟩ := List.mem_map.mp h
  rfl
end

/-! ### contracts -/
inductive Res
  | ok (d : PyData)
  /-- a new list -/
  | own (ds : List PyData)
  /-- an own error of the class at C -/
  | er (C : Addr)
def spOf (K : PySem.W.Frag) (S : List PyData → Res → Prop) : Sp := fun vs H Q E => ∃ (G : Hp) (ds : List PyData) (r : Res), Same G H ∧ AtAll K G vs ds ∧ S ds r ∧
  (∀ d, r = .ok d → ∀ v G' H', Ext G H G' H' → At K G' v d → Q v H') ∧
  (∀ es, r = .own es → ∀ p us G' H', Ext G H G' H' → H p = none → G' p = none → H' p = some (.lst us) → AtAll K G' us es → Q (.ref p) H') ∧
  (∀ C, r = .er C → ∀ H', Same H H' → E (.ref C) none H')
section
variable {K : PySem.W.Frag} {Γ : Env} {ta : TA} {S : List PyData → Res → Prop} {E E' : XK} {ds : List PyData}
theorem ev_call {d : PyData} (h : EvA K ta Γ ds) (hs : S ds (.ok d)) : EvD K (tCall (spOf K S) [] E ta) Γ d := fun H0 G H σ s gh Q q =>
  h H0 G H σ s gh _ fun vs G1 H1 e1 a1 => by
    show spOf K S (vs ++ []) H1 Q E
    rw [List.append_nil]
    exact ⟨G1, ds, .ok d, e1.gh, a1, hs, fun d' z v G' H' e a => by cases z; exact q v G' H' (e1.trans e) a, fun es z => (nomatch z), fun C z => (nomatch z)⟩
theorem eo_call {es : List PyData} (h : EvA K ta Γ ds) (hs : S ds (.own es)) : EvO K (tCall (spOf K S) [] E ta) Γ es := fun H0 G H σ s gh Q q =>
  h H0 G H σ s gh _ fun vs G1 H1 e1 a1 => by
    show spOf K S (vs ++ []) H1 Q E
    rw [List.append_nil]
    exact ⟨G1, ds, .own es, e1.gh, a1, hs, fun d' z => (nomatch z), fun es' z p us G' H' e hp gp hp' ha => by cases z; exact q p us G' H' (e1.trans e) (e1.hh.free hp) gp hp' ha, fun C z => (nomatch z)⟩
theorem ex_call {C : Addr} (h : EvA K ta Γ ds) (hs : S ds (.er C)) : EvX K E (tCall (spOf K S) [] E ta) Γ C := fun H0 G H σ s gh hE Q =>
  h H0 G H σ s gh _ fun vs G1 H1 e1 a1 => by
    show spOf K S (vs ++ []) H1 Q E
    rw [List.append_nil]
    exact ⟨G1, ds, .er C, e1.gh, a1, hs, fun d' z => (nomatch z), fun es' z => (nomatch z), fun C' z H' e => by cases z; exact hE H' (e1.hh.trans e)⟩
end

/-! ### statements -/
inductive Out
  | nx (Γ : Env)
  | rt (d : PyData)
  | ro (ds : List PyData)
  | bk (Γ : Env)
  | ct (Γ : Env)
  | ex (C : Addr)
/-- from G, known ahead, to G' and H' behind; H0 is what stood at the def's entry -/
structure Step (H0 G G' H' : Hp) : Prop where
  hh : Same H0 H'
  gg : Same G G'
  gh : Same G' H'
  fr : ∀ a, G a = none → H0 a ≠ none → G' a = none
theorem Step.trans {H0 G G1 H1 G2 H2 : Hp} (a : Step H0 G G1 H1) (b : Step H0 G1 G2 H2) : Step H0 G G2 H2 := ⟨b.hh, a.gg.trans b.gg, b.gh, fun x q n => b.fr x (a.fr x q n) n⟩
theorem Ext.step {H0 G H G' H' : Hp} (e : Ext G H G' H') (h : Same H0 H) : Step H0 G G' H' := ⟨h.trans e.hh, e.gg, e.gh, fun a q n => e.fr a q (some_up h n)⟩
structure Meets (K : PySem.W.Frag) (E : XK) (H0 G : Hp) (D : Ends) (P : Out → Prop) : Prop where
  nx : ∀ Γ' σ' G' H', P (.nx Γ') → Step H0 G G' H' → Sat K H0 G' H' σ' Γ' → D.nx σ' H'
  rt : ∀ d v G' H', P (.rt d) → Step H0 G G' H' → At K G' v d → D.rt v H'
  ro : ∀ ds p us G' H', P (.ro ds) → Step H0 G G' H' → H0 p = none → G' p = none → H' p = some (.lst us) → AtAll K G' us ds → D.rt (.ref p) H'
  bk : ∀ Γ' σ' G' H', P (.bk Γ') → Step H0 G G' H' → Sat K H0 G' H' σ' Γ' → D.bk σ' H'
  ct : ∀ Γ' σ' G' H', P (.ct Γ') → Step H0 G G' H' → Sat K H0 G' H' σ' Γ' → D.ct σ' H'
  ex : ∀ C H', P (.ex C) → Same H0 H' → E (.ref C) none H'
def HT (K : PySem.W.Frag) (E : XK) (t : TS) (Γ : Env) (P : Out → Prop) : Prop := ∀ (H0 G H : Hp) (σ : St) (D : Ends), Sat K H0 G H σ Γ → Same G H → Same H0 H → Meets K E H0 G D P → t D σ H
section
variable {K : PySem.W.Frag} {E : XK} {t u : TS} {Γ : Env} {P P' : Out → Prop} {te : TE} {tt : TT} {g : TG}
theorem Meets.step {H0 G G1 H1 : Hp} {D : Ends} (m : Meets K E H0 G D P) (s : Step H0 G G1 H1) : Meets K E H0 G1 D P :=
  ⟨fun Γ' σ' G' H' p q => m.nx Γ' σ' G' H' p (s.trans q), fun d v G' H' p q => m.rt d v G' H' p (s.trans q), fun ds q us G' H' p z => m.ro ds q us G' H' p (s.trans z), fun Γ' σ' G' H' p q => m.bk Γ' σ' G' H' p (s.trans q), fun Γ' σ' G' H' p q => m.ct Γ' σ' G' H' p (s.trans q), m.ex⟩
theorem ht_imp (h : HT K E t Γ P) (i : ∀ o, P o → P' o) : HT K E t Γ P' := fun H0 G H σ D s gh h0 m => h H0 G H σ D s gh h0
  ⟨fun Γ' σ' G' H' p => m.nx Γ' σ' G' H' (i _ p), fun d v G' H' p => m.rt d v G' H' (i _ p), fun ds q us G' H' p => m.ro ds q us G' H' (i _ p), fun Γ' σ' G' H' p => m.bk Γ' σ' G' H' (i _ p), fun Γ' σ' G' H' p => m.ct Γ' σ' G' H' (i _ p), fun C H' p => m.ex C H' (i _ p)⟩
/-- what is wanted ahead of u -/
def Then (K : PySem.W.Frag) (E : XK) (u : TS) (P : Out → Prop) : Out → Prop
  | .nx Γ' => HT K E u Γ' P
  | o => P o
theorem ht_seq (h : HT K E t Γ (Then K E u P)) : HT K E (tSeq t u) Γ P := fun H0 G H σ D s gh h0 m => h H0 G H σ { D with nx := u D } s gh h0
  ⟨fun Γ' σ' G' H' p q s' => p H0 G' H' σ' D s' q.gh q.hh (m.step q), fun d v G' H' p => m.rt d v G' H' p, fun ds q us G' H' p => m.ro ds q us G' H' p, fun Γ' σ' G' H' p => m.bk Γ' σ' G' H' p, fun Γ' σ' G' H' p => m.ct Γ' σ' G' H' p, fun C H' p => m.ex C H' p⟩
theorem ht_next (h : P (.nx Γ)) : HT K E tNext Γ P := fun H0 G H σ D s gh h0 m => m.nx Γ σ G H h ((Ext.refl gh).step h0) s
theorem ht_break (h : P (.bk Γ)) : HT K E tBreak Γ P := fun H0 G H σ D s gh h0 m => m.bk Γ σ G H h ((Ext.refl gh).step h0) s
theorem ht_cont (h : P (.ct Γ)) : HT K E tCont Γ P := fun H0 G H σ D s gh h0 m => m.ct Γ σ G H h ((Ext.refl gh).step h0) s
theorem ht_asg {i : Nat} {d : PyData} (h : EvD K te Γ d) (p : P (.nx (Γ.set i (.da d)))) : HT K E (tAsg te (gName i)) Γ P := fun H0 G H σ D s gh h0 m => h H0 G H σ s gh _ fun v G1 H1 e1 a1 =>
  m.nx _ _ G1 H1 p (e1.step h0) ((s.ext e1).setD a1)
/-- name = a new list, the slot's own -/
theorem ht_asgO {i : Nat} {ds : List PyData} (h : EvO K te Γ ds) (p : P (.nx (Γ.set i (.ow ds)))) : HT K E (tAsg te (gName i)) Γ P := fun H0 G H σ D s gh h0 m => h H0 G H σ s gh _ fun q vs G1 H1 e1 hq gq h1 a1 =>
  m.nx _ _ G1 H1 p (e1.step h0) ((s.ext e1).setO h1 gq (h0.free hq) a1 fun j dj z y => by
    obtain ⟨b, ws, k1, k2, _⟩ := s.ow j dj z
    rw [y] at k1; cases k1
    rw [hq] at k2; cases k2)
theorem ht_asgT {i j : Nat} {d e : PyData} (h : EvD K te Γ (.tuple [d, e])) (p : P (.nx ((Γ.set i (.da d)).set j (.da e)))) : HT K E (tAsg te (gTup K 2 (gCons (gName i) (gCons (gName j) gNil)))) Γ P :=
  fun H0 G H σ D s gh h0 m => h H0 G H σ s gh _ fun v G1 H1 e1 a1 => tg_tup2 H0 G1 H1 σ v (s.ext e1) e1.gh a1 _ fun σ' s' _ _ => m.nx _ _ G1 H1 p (e1.step h0) s'
theorem ht_drop {d : PyData} (h : EvD K te Γ d) (p : P (.nx Γ)) : HT K E (tDrop te) Γ P := fun H0 G H σ D s gh h0 m => h H0 G H σ s gh _ fun v G1 H1 e1 a1 => m.nx _ _ G1 H1 p (e1.step h0) (s.ext e1)
theorem ht_ret {d : PyData} (h : EvD K te Γ d) (p : P (.rt d)) : HT K E (tRet te) Γ P := fun H0 G H σ D s gh h0 m => h H0 G H σ s gh _ fun v G1 H1 e1 a1 => m.rt d v G1 H1 p (e1.step h0) a1
theorem ht_retO {ds : List PyData} (h : EvO K te Γ ds) (p : P (.ro ds)) : HT K E (tRet te) Γ P := fun H0 G H σ D s gh h0 m => h H0 G H σ s gh _ fun q vs G1 H1 e1 hq gq h1 a1 => m.ro ds q vs G1 H1 p (e1.step h0) (h0.free hq) gq h1 a1
theorem ht_retN (p : P (.rt .none)) : HT K E tRetN Γ P := fun H0 G H σ D s gh h0 m => m.rt .none .non G H p ((Ext.refl gh).step h0) .non
/-- return of a slot's own list -/
theorem ht_retS {i : Nat} {ds : List PyData} (h : Γ[i]? = some (.ow ds)) (p : P (.ro ds)) : HT K E (tRet (tVar i)) Γ P := fun H0 G H σ D s gh h0 m => by
  obtain ⟨q, vs, h1, h2, h3, h4, h5⟩ := s.ow i ds h
  exact ⟨_, h1, m.ro ds q vs G H p ((Ext.refl gh).step h0) h4 h3 h2 h5⟩
theorem ht_dropX {C : Addr} (h : EvX K E te Γ C) (p : P (.ex C)) : HT K E (tDrop te) Γ P := fun H0 G H σ D s gh h0 m => h H0 G H σ s gh (fun H' e => m.ex C H' p (h0.trans e)) _
theorem ht_retX {C : Addr} (h : EvX K E te Γ C) (p : P (.ex C)) : HT K E (tRet te) Γ P := fun H0 G H σ D s gh h0 m => h H0 G H σ s gh (fun H' e => m.ex C H' p (h0.trans e)) _
theorem ht_asgX {C : Addr} (h : EvX K E te Γ C) (p : P (.ex C)) : HT K E (tAsg te g) Γ P := fun H0 G H σ D s gh h0 m => h H0 G H σ s gh (fun H' e => m.ex C H' p (h0.trans e)) _
theorem ht_if {b : Bool} (h : EvT K tt Γ b) (h1 : b = true → HT K E t Γ P) (h2 : b = false → HT K E u Γ P) : HT K E (tIfS tt t u) Γ P := fun H0 G H σ D s gh h0 m => h H0 G H σ s gh _ fun G1 H1 e1 => by
  cases b with
  | true => exact h1 rfl H0 G1 H1 σ D (s.ext e1) e1.gh (h0.trans e1.hh) (m.step (e1.step h0))
  | false => exact h2 rfl H0 G1 H1 σ D (s.ext e1) e1.gh (h0.trans e1.hh) (m.step (e1.step h0))
/-- raise C('..') -/
def tRaiseC (C : Addr) (E : XK) : TS := fun _ _ H => E (.ref C) none H
theorem ht_raise {C : Addr} (p : P (.ex C)) : HT K E (tRaiseC C E) Γ P := fun H0 G H σ D s gh h0 m => m.ex C H p h0
theorem ht_weak {Γ' : Env} (h : HT K E t Γ' P) (hl : Γ'.length = Γ.length) (w : ∀ (i : Nat) (x y : Sl), Γ[i]? = some x → Γ'[i]? = some y → Wk x y) : HT K E t Γ P := fun H0 G H σ D s gh h0 m => h H0 G H σ D (s.weak hl w) gh h0 m
theorem Sat.frzAt {H0 G H : Hp} {σ : St} (s : Sat K H0 G H σ Γ) {i : Nat} {ds : List PyData} {p : Addr} {vs : List V} (hi : Γ[i]? = some (.ow ds)) (k1 : σ[i]? = some (some (.ref p))) (k2 : H p = some (.lst vs)) (k3 : G p = none) (k5 : AtAll K G vs ds) :
    Sat K H0 (upd G p (.lst vs)) H σ (Γ.set i (.da (.list ds))) := by
  have hil : i < Γ.length := (List.getElem?_eq_some_iff.mp hi).1
  have up : Same G (upd G p (.lst vs)) := same_new k3
  have fo : ∀ {m : Nat} {ks : List Int}, (Γ.set i (.da (.list ds)))[m]? = some (.od ks) → Γ[m]? = some (.od ks) := fun {m ks} q => by
    by_cases z : i = m
    · subst z; rw [List.getElem?_set_self hil] at q; cases q
    · rwa [List.getElem?_set_ne z] at q
  have rf := s.rfSet' (i := i) (x := .da (.list ds)) (fun _ _ z => nomatch z)
  refine ⟨by simp [s.len], fun j d q => ?_, fun j es q => ?_, fun j k dj dk b q1 q2 => ?_, fun j ks q => ?_, fun j k di dj b q1 q2 => s.nd j k di dj b (fo q1) (fo q2), fun j v o q => ⟨(rf j v o q).1, fun d z => ((rf j v o q).2 d z).up up⟩⟩
  · by_cases z : i = j
    · subst z; rw [List.getElem?_set_self hil] at q; cases q
      exact ⟨_, k1, .lst upd_same (k5.up up)⟩
    · rw [List.getElem?_set_ne z] at q
      obtain ⟨v, h1, h2⟩ := s.da j d q
      exact ⟨v, h1, h2.up up⟩
  · by_cases z : i = j
    · subst z; rw [List.getElem?_set_self hil] at q; cases q
    · rw [List.getElem?_set_ne z] at q
      obtain ⟨b, ws, h1, h2, h3, h4, h5⟩ := s.ow j es q
      have nb : b ≠ p := fun y => by subst y; exact z (s.ne i j ds es b hi q k1 h1)
      exact ⟨b, ws, h1, h2, by rw [upd_ne nb]; exact h3, h4, h5.up up⟩
  · have f : ∀ {m : Nat} {dm : List PyData}, (Γ.set i (.da (.list ds)))[m]? = some (.ow dm) → Γ[m]? = some (.ow dm) := fun {m dm} q => by
      by_cases z : i = m
      · subst z; rw [List.getElem?_set_self hil] at q; cases q
      · rwa [List.getElem?_set_ne z] at q
    exact s.ne j k dj dk b (f q1) (f q2)
  · obtain ⟨b, kvs, h1, h2, h3, h4⟩ := s.od j ks (fo q)
    have nb : b ≠ p := fun y => by subst y; rw [k2] at h2; cases h2
    exact ⟨b, kvs, h1, h2, by rw [upd_ne nb]; exact h3, h4⟩
/-- a slot's own list is data from now on -/
theorem ht_frz {i : Nat} {ds : List PyData} (hi : Γ[i]? = some (.ow ds)) (h : HT K E t (Γ.set i (.da (.list ds))) P) : HT K E t Γ P := fun H0 G H σ D s gh h0 m => by
  obtain ⟨p, vs, k1, k2, k3, k4, k5⟩ := s.ow i ds hi
  have g2 : Same (upd G p (.lst vs)) H := fun b x e => by
    by_cases z : b = p
    · subst z; rw [upd_same] at e; cases e; exact k2
    · rw [upd_ne z] at e; exact gh b x e
  exact h H0 (upd G p (.lst vs)) H σ D (s.frzAt hi k1 k2 k3 k5) g2 h0 (m.step ⟨h0, same_new k3, g2, fun a q n => by
    have z : a ≠ p := fun z => n (by rw [z]; exact k4)
    rw [upd_ne z]; exact q⟩)
/-- xs.append(e), xs the slot's own -/
theorem ht_app {i : Nat} {ds : List PyData} {d : PyData} (hi : Γ[i]? = some (.ow ds)) (h : EvD K te Γ d) (hz : ds.length < 100000) (p : P (.nx (Γ.set i (.ow (ds ++ [d]))))) :
    HT K E (tDrop (tBM K "list" rAppend (tVar i) (tCons te tNil))) Γ P := fun H0 G H σ D s gh h0 m => by
  obtain ⟨q, vs, k1, k2, k3, k4, k5⟩ := s.ow i ds hi
  refine ⟨_, k1, .inl ⟨rfl, vs, SqL.of k2⟩, ?_⟩
  refine h H0 G H σ s gh _ fun v G1 H1 e1 a1 => ?_
  have q1 : H1 q = some (.lst vs) := e1.hh _ _ k2
  have g1 : G1 q = none := e1.fr q k3 (by rw [k2]; exact fun z => nomatch z)
  refine ⟨q, vs, v, rfl, rfl, q1, by rw [k5.length]; exact Nat.lt_trans hz (by decide), ?_⟩
  refine m.nx _ _ G1 _ p ⟨fun b x z => ?_, e1.gg, fun b x z => ?_, fun a z n => e1.fr a z (some_up h0 n)⟩ ((s.ext e1).write hi k1 ((k5.up e1.gg).snoc a1))
  · rw [upd_ne (ne_of_none z k4)]; exact e1.hh _ _ (h0 _ _ z)
  · rw [upd_ne (ne_of_none z g1)]; exact e1.gh _ _ z
/-- xs[k] = e, xs the slot's own -/
theorem ixN_of {n : Nat} {k : Int} (h0 : 0 ≤ k) (h : k < n) : ixN n k = some k.toNat := by
  unfold ixN; rw [if_pos h0, if_pos h]
theorem ht_set {i : Nat} {ds : List PyData} {d : PyData} {k : Int} {ti : TE} (hi : Γ[i]? = some (.ow ds)) (h : EvD K te Γ d) (hk : EvD K ti Γ (.int k)) (k0 : 0 ≤ k) (kl : k < ds.length) (p : P (.nx (Γ.set i (.ow (ds.set k.toNat d))))) :
    HT K E (tAsg te (gSub (tVar i) ti rSetL)) Γ P := fun H0 G H σ D s gh h0 m => by
  obtain ⟨q, vs, k1, k2, k3, k4, k5⟩ := s.ow i ds hi
  refine h H0 G H σ s gh _ fun v G1 H1 e1 a1 => ⟨_, k1, ?_⟩
  refine hk H0 G1 H1 σ (s.ext e1) e1.gh _ fun w G2 H2 e2 a2 => ?_
  cases a2
  have e12 := e1.trans e2
  have q1 : H2 q = some (.lst vs) := e12.hh _ _ k2
  have g1 : G2 q = none := e12.fr q k3 (by rw [k2]; exact fun z => nomatch z)
  refine ⟨q, vs, k, k.toNat, rfl, rfl, q1, by rw [k5.length]; exact ixN_of k0 kl, ?_⟩
  refine m.nx _ _ G2 _ p ⟨fun b x z => ?_, e12.gg, fun b x z => ?_, fun a z n => e12.fr a z (some_up h0 n)⟩ ((s.ext e12).write hi k1 ((k5.up e12.gg).set (a1.up e2.gg) _))
  · rw [upd_ne (ne_of_none z k4)]; exact e12.hh _ _ (h0 _ _ z)
  · rw [upd_ne (ne_of_none z g1)]; exact e12.gh _ _ z

/-- name = {} -/
theorem ht_asgK {i : Nat} (p : P (.nx (Γ.set i (.od [])))) : HT K E (tAsg tDNewK (gName i)) Γ P := fun H0 G H σ D s gh h0 m => fun q hq =>
  have e1 : Ext G H G (upd H q (.dK [])) := Ext.own gh hq
  m.nx _ _ G _ p (e1.step h0) ((s.ext e1).setK upd_same (gh.free hq) (h0.free hq) fun j dj z y => by
    obtain ⟨b, ws, k1, k2, _⟩ := s.od j dj z
    rw [y] at k1; cases k1
    rw [hq] at k2; cases k2)
/-- k in d, d the slot's own dict -/
theorem ev_din {i : Nat} {ks : List Int} {k : Int} (hi : Γ[i]? = some (.od ks)) (h : EvD K te Γ (.int k)) : EvD K (tDIn te (tVar i)) Γ (.bool (decide (k ∈ ks))) := fun H0 G H σ s gh Q q =>
  h H0 G H σ s gh _ fun v G1 H1 e1 a1 => by
    cases a1
    obtain ⟨b, kvs, k1, k2, k3, k4, k5, k6⟩ := (s.ext e1).od i ks hi
    refine ⟨_, k1, b, _, rfl, DGet.k (k := Sum.inl k) k2, ?_⟩
    rw [k6]
    exact q _ G1 H1 e1 (.bl _)
/-- d[k] = v, a new key -/
theorem ht_put {i : Nat} {ks : List Int} {k : Int} {d : PyData} {ti : TE} (hi : Γ[i]? = some (.od ks)) (h : EvD K te Γ d) (hk : EvD K ti Γ (.int k)) (nk : k ∉ ks) (hz : ks.length ≤ 100000) (p : P (.nx (Γ.set i (.od (ks ++ [k]))))) :
    HT K E (sDPut (tVar i) ti te) Γ P := fun H0 G H σ D s gh h0 m => by
  refine h H0 G H σ s gh _ fun v G1 H1 e1 a1 => ?_
  obtain ⟨b, kvs, k1, k2, k3, k4, k5, k6⟩ := (s.ext e1).od i ks hi
  refine ⟨_, k1, ?_⟩
  refine hk H0 G1 H1 σ (s.ext e1) e1.gh _ fun w G2 H2 e2 a2 => ?_
  cases a2
  have e12 := e1.trans e2
  have q1 : H2 b = some (.dK kvs) := e2.hh _ _ k2
  have g1 : G2 b = none := e2.fr b k3 (by rw [k2]; exact fun z => nomatch z)
  refine ⟨b, _, rfl, DPut.k (k := Sum.inl k) q1 (Nat.lt_of_le_of_lt (Nat.le_trans k5 hz) (by decide)), ?_⟩
  refine m.nx _ _ G2 _ p ⟨fun c x z => ?_, e12.gg, fun c x z => ?_, fun a z n => e12.fr a z (some_up h0 n)⟩ ((s.ext e12).put hi k1 q1 nk)
  · rw [upd_ne (ne_of_none z k4)]; exact e12.hh _ _ (h0 _ _ z)
  · rw [upd_ne (ne_of_none z g1)]; exact e12.gh _ _ z
/-- {} as data -/
theorem ev_dnew : EvD K tDNewK Γ (.dict []) := fun H0 G H σ s gh Q q => fun p hp => q _ _ _ (Ext.new gh hp) (.dic upd_same)

/-! ### lent for a while -/
/-- the slots as they stand, each with the very value that it holds -/
inductive Fix1 : Sl → Sl → Prop
  | no : Fix1 .no .no
  | da (v : V) (d : PyData) : Fix1 (.da d) (.fx v (some d))
  | ow (p : Addr) (ds : List PyData) : Fix1 (.ow ds) (.fx (.ref p) (some (.list ds)))
  | fx (v : V) (o : Option PyData) : Fix1 (.fx v o) (.fx v o)
inductive Fixed : Env → Env → Prop
  | nil : Fixed [] []
  | cons {x y : Sl} {Γ Γ' : Env} : Fix1 x y → Fixed Γ Γ' → Fixed (x :: Γ) (y :: Γ')
theorem Fixed.get {Γ Γf : Env} (h : Fixed Γ Γf) : ∀ {j : Nat} {x : Sl}, Γ[j]? = some x → ∃ y, Γf[j]? = some y ∧ Fix1 x y := by
  induction h with
  | nil => intro j x q; simp at q
  | cons h1 _ ih =>
    intro j x q
    cases j with
    | zero => simp at q; subst q; exact ⟨_, rfl, h1⟩
    | succ j => simp at q; obtain ⟨y, e, f⟩ := ih q; exact ⟨y, by simpa using e, f⟩
theorem Fixed.len {Γ Γf : Env} (h : Fixed Γ Γf) : Γf.length = Γ.length := by
  induction h with
  | nil => rfl
  | cons _ _ ih => simp [ih]
/-- a fixed slot's datum -/
theorem ev_fix {K : PySem.W.Frag} {Γ : Env} {i : Nat} {v : V} {d : PyData} (h : Γ[i]? = some (.fx v (some d))) (hn : isIns d = false := by rfl) : EvD K (tVar i) Γ d := fun H0 G H σ s gh Q q => by
  obtain ⟨h1, h2⟩ := s.fx i v _ h
  exact ⟨v, h1, q v G H (Ext.refl gh) ((h2 d rfl).at hn)⟩
/-- what is wanted behind a statement that was run on the lent slots -/
def Loan (Γ Γf : Env) (P : Out → Prop) : Out → Prop
  | .nx Γ' => Γ'.length = Γ.length ∧ ∃ Γ2 : Env, Γ2.length = Γ.length ∧ (∀ (j : Nat) (x : Sl), Γ2[j]? = some x → x = .no ∨ (Γ[j]? = some x ∧ Γ'[j]? = Γf[j]?)) ∧ P (.nx Γ2)
  | .rt d => scal d = true ∧ P (.rt d)
  | .ex C => P (.ex C)
  | _ => False
/-- the values of the slots, written in -/
def fixE : Env → St → Env
  | .da d :: Γ, some v :: σ => .fx v (some d) :: fixE Γ σ
  | .ow ds :: Γ, some v :: σ => .fx v (some (.list ds)) :: fixE Γ σ
  | .fx v o :: Γ, _ :: σ => .fx v o :: fixE Γ σ
  | _ :: Γ, _ :: σ => .no :: fixE Γ σ
  | _, _ => []
theorem fixE_fixed : ∀ {Γ : Env} {σ : St}, σ.length = Γ.length → (∀ (i : Nat) (ks : List Int), Γ[i]? ≠ some (.od ks)) → (∀ (i : Nat) (d : PyData), Γ[i]? = some (.da d) → ∃ v, σ[i]? = some (some v)) →
    (∀ (i : Nat) (ds : List PyData), Γ[i]? = some (.ow ds) → ∃ p, σ[i]? = some (some (.ref p))) → Fixed Γ (fixE Γ σ)
  | [], σ, h, _, _, _ => by
    have : σ = [] := List.length_eq_zero_iff.mp h
    subst this; exact .nil
  | x :: Γ, [], h, _, _, _ => by simp at h
  | x :: Γ, o :: σ, h, ho, hd, hw => by
    have ih := fixE_fixed (Γ := Γ) (σ := σ) (by simpa using h) (fun i ks q => ho (i + 1) ks (by simpa using q)) (fun i d q => by simpa using hd (i + 1) d (by simpa using q)) (fun i ds q => by simpa using hw (i + 1) ds (by simpa using q))
    cases x with
    | no => exact .cons .no ih
    | da d =>
      obtain ⟨v, e⟩ := hd 0 d rfl
      have e : o = some v := by simpa using e
      subst e
      exact .cons (.da v d) ih
    | ow ds =>
      obtain ⟨p, e⟩ := hw 0 ds rfl
      have e : o = some (.ref p) := by simpa using e
      subst e
      exact .cons (.ow p ds) ih
    | od ks => exact absurd rfl (ho 0 ks)
    | fx v o' => exact .cons (.fx v o') ih
theorem fixE_get : ∀ {Γ : Env} {σ : St} {i : Nat} {x : Sl}, (fixE Γ σ)[i]? = some x → x = .no ∨ ∃ v o, x = .fx v o ∧ (Γ[i]? = some (.fx v o) ∨ (σ[i]? = some (some v) ∧ ∃ d, o = some d ∧ (Γ[i]? = some (.da d) ∨ ∃ ds, d = .list ds ∧ Γ[i]? = some (.ow ds))))
  | [], σ, i, x, h => by simp [fixE] at h
  | y :: Γ, [], i, x, h => by cases y <;> simp [fixE] at h
  | y :: Γ, t :: σ, i, x, h => by
    cases i with
    | succ i =>
      have h' : (fixE Γ σ)[i]? = some x := by
        cases y <;> cases t <;> simpa [fixE] using h
      simpa using fixE_get h'
    | zero =>
      cases y with
      | no => cases t <;> (left; simpa [fixE] using h.symm)
      | od ks => cases t <;> (left; simpa [fixE] using h.symm)
      | fx v o => right; cases t <;> exact ⟨v, o, by simpa [fixE] using h.symm, .inl rfl⟩
      | da d =>
        cases t with
        | none => left; simpa [fixE] using h.symm
        | some v => right; exact ⟨v, some d, by simpa [fixE] using h.symm, .inr ⟨rfl, d, rfl, .inl rfl⟩⟩
      | ow ds =>
        cases t with
        | none => left; simpa [fixE] using h.symm
        | some v => right; exact ⟨v, some (.list ds), by simpa [fixE] using h.symm, .inr ⟨rfl, _, rfl, .inr ⟨ds, rfl, rfl⟩⟩⟩
theorem ht_loan (ho : ∀ (i : Nat) (ks : List Int), Γ[i]? ≠ some (.od ks)) (h : ∀ Γf, Fixed Γ Γf → HT K E t Γf (Loan Γ Γf P)) : HT K E t Γ P := fun H0 G H σ D s gh h0 m => by
  obtain ⟨G2, g1, g2, s2, new⟩ := s.frz gh
  have fz : ∀ {i : Nat} {x : Sl}, Γ[i]? = some x → (PD.frz Γ)[i]? = some (frz1 x) := fun {i x} q => by unfold PD.frz; rw [List.getElem?_map, q]; rfl
  have fd := fixE_fixed (Γ := Γ) (σ := σ) s.len ho (fun i d q => by obtain ⟨v, e, _⟩ := s.da i d q; exact ⟨v, e⟩) (fun i ds q => by obtain ⟨p, vs, e, _⟩ := s.ow i ds q; exact ⟨p, e⟩)
  have fl := fd.len
  have sat : Sat K H G2 H σ (fixE Γ σ) := by
    refine ⟨by rw [fl]; exact s.len, fun i d q => ?_, fun i ds q => ?_, fun i j di dj p q1 q2 => ?_, fun i ks q => ?_, fun i j di dj p q1 q2 => ?_, fun i v o q => ?_⟩
    · rcases fixE_get q with e | ⟨v, o, e, _⟩ <;> cases e
    · rcases fixE_get q with e | ⟨v, o, e, _⟩ <;> cases e
    · rcases fixE_get q1 with e | ⟨v, o, e, _⟩ <;> cases e
    · rcases fixE_get q with e | ⟨v, o, e, _⟩ <;> cases e
    · rcases fixE_get q1 with e | ⟨v, o, e, _⟩ <;> cases e
    · rcases fixE_get q with e | ⟨v', o', e, hh⟩
      · cases e
      · cases e
        rcases hh with hh | ⟨hv, d, rfl, hh | ⟨ds, rfl, hh⟩⟩
        · exact ⟨(s.fx i v o hh).1, fun d z => ((s.fx i v o hh).2 d z).up g1⟩
        · refine ⟨hv, fun d' z => ?_⟩
          cases z
          obtain ⟨v2, e2, a2⟩ := s.da i d hh
          rw [hv] at e2; cases e2
          exact .of (a2.up g1)
        · refine ⟨hv, fun d' z => ?_⟩
          cases z
          obtain ⟨v2, e2, a2⟩ := s2.da i _ (fz hh)
          rw [hv] at e2; cases e2
          exact .of a2
  have gH : ∀ {H' : Hp}, Same H H' → Step H0 G G H' := fun e => ⟨h0.trans e, Same.refl G, gh.trans e, fun _ q _ => q⟩
  refine h _ fd H G2 H σ D sat g2 (Same.refl H) ⟨fun Γ' σ' G' H' p st s' => ?_, fun d v G' H' p st a => m.rt d v G H' p.2 (gH st.hh) (a.scal p.1), fun _ _ _ _ _ p => False.elim p, fun _ _ _ _ p => False.elim p, fun _ _ _ _ p => False.elim p, fun C H' p e => m.ex C H' p (h0.trans e)⟩
  obtain ⟨hl', Γ2, hl, hx, hp⟩ := p
  have key : ∀ {j : Nat} {x : Sl}, Γ2[j]? = some x → x ≠ .no → Γ[j]? = some x ∧ σ'[j]? = σ[j]? := fun {j x} q n => by
    rcases hx j x q with e | ⟨e1, e2⟩
    · exact absurd e n
    · refine ⟨e1, ?_⟩
      obtain ⟨y, hy, fx⟩ := fd.get e1
      rw [hy] at e2
      cases fx with
      | no => exact absurd rfl n
      | da v d => rw [(s'.fx j _ _ e2).1, (sat.fx j _ _ hy).1]
      | ow p ds => rw [(s'.fx j _ _ e2).1, (sat.fx j _ _ hy).1]
      | fx v o => rw [(s'.fx j _ _ e2).1, (sat.fx j _ _ hy).1]
  refine m.nx Γ2 σ' G H' hp (gH st.hh) ⟨by rw [s'.len, hl', hl], fun i d q => ?_, fun i ds q => ?_, fun i j di dj p q1 q2 r1 r2 => ?_, fun i ks q => ?_, fun i j di dj p q1 q2 => ?_, fun i v o q => ?_⟩
  · obtain ⟨e1, e2⟩ := key q (fun z => nomatch z)
    rw [e2]
    exact s.da i d e1
  · obtain ⟨e1, e2⟩ := key q (fun z => nomatch z)
    obtain ⟨p, vs, k1, k2, k3⟩ := s.ow i ds e1
    rw [e2]
    exact ⟨p, vs, k1, st.hh _ _ k2, k3⟩
  · obtain ⟨e1, e2⟩ := key q1 (fun z => nomatch z)
    obtain ⟨e3, e4⟩ := key q2 (fun z => nomatch z)
    rw [e2] at r1
    rw [e4] at r2
    exact s.ne i j di dj p e1 e3 r1 r2
  · obtain ⟨e1, e2⟩ := key q (fun z => nomatch z)
    exact absurd e1 (ho i ks)
  · obtain ⟨e1, e2⟩ := key q1 (fun z => nomatch z)
    exact absurd e1 (ho i di)
  · obtain ⟨e1, e2⟩ := key q (fun z => nomatch z)
    rw [e2]
    exact s.fx i v o e1
/-! ### loops -/
def Turn1 (I : Nat → Env → Prop) (i : Nat) (P : Out → Prop) : Out → Prop
  | .nx Γ' => I (i + 1) Γ'
  | .ct Γ' => I (i + 1) Γ'
  | .bk Γ' => P (.nx Γ')
  | .rt d => P (.rt d)
  | .ro ds => P (.ro ds)
  | .ex C => P (.ex C)
def Pw (K : PySem.W.Frag) (H0 G1 : Hp) (I : Nat → Env → Prop) (i : Nat) (σ : St) (H : Hp) : Prop := ∃ G Γ', Step H0 G1 G H ∧ Sat K H0 G H σ Γ' ∧ I i Γ'
theorem turn_meets {H0 G1 G H : Hp} {D : Ends} {I : Nat → Env → Prop} {i : Nat} (m : Meets K E H0 G1 D P) (st : Step H0 G1 G H) :
    Meets K E H0 G { D with nx := Pw K H0 G1 I (i + 1), ct := Pw K H0 G1 I (i + 1), bk := D.nx } (Turn1 I i P) :=
  ⟨fun Γ' σ' G' H' p q s => ⟨G', Γ', st.trans q, s, p⟩, fun d v G' H' p q => m.rt d v G' H' p (st.trans q), fun ds q us G' H' p z => m.ro ds q us G' H' p (st.trans z), fun Γ' σ' G' H' p q s => m.nx Γ' σ' G' H' p (st.trans q) s,
    fun Γ' σ' G' H' p q s => ⟨G', Γ', st.trans q, s, p⟩, fun C H' p q => m.ex C H' p q⟩
/-- for j in range(n) -/
theorem ht_forR {ta : TA} {j : Nat} {n : Int} (I : Nat → Env → Prop) (h : EvA K ta Γ [.int n]) (hn : 0 ≤ n ∧ n ≤ 100000) (h0 : I 0 Γ)
    (hs : ∀ (i : Nat) (Γ' : Env), (i : Int) < n → I i Γ' → HT K E t (Γ'.set j (.da (.int (i : Int)))) (Turn1 I i P)) (hd : ∀ Γ', I n.toNat Γ' → P (.nx Γ')) : HT K E (tFor (iRng1 ta) (gName j) t) Γ P :=
  fun H0 G H σ D s gh hh m => h H0 G H σ s gh _ fun us G1 H1 e1 a1 => by
    have eu : us = [.int n] := (show AtAll K G1 us ([n].map .int) from a1).ints
    subst eu
    have m1 := m.step (e1.step hh)
    refine ⟨n, rfl, by omega, by omega, for_range (lo := 0) (n := n.toNat) (Pw K H0 G1 I) ⟨G1, Γ, (Ext.refl e1.gh).step (hh.trans e1.hh), s.ext e1, h0⟩ (fun i σ' H' hi p => ?_) (fun σ' H' p => ?_)⟩
    · obtain ⟨G', Γ', st, s', ii⟩ := p
      have e0 : (0 : Int) + (i : Int) = (i : Int) := Int.zero_add _
      show t _ (σ'.set j (some (.int ((0 : Int) + (i : Int))))) H'
      rw [e0]
      exact hs i Γ' (by omega) ii H0 G' H' _ _ (s'.setD (.int _)) st.gh st.hh (turn_meets m1 st)
    · obtain ⟨G', Γ', st, s', ii⟩ := p
      exact m1.nx Γ' σ' G' H' (hd Γ' ii) st s'
/-- for j in range(lo, n) -/
theorem ht_forR2 {ta : TA} {j : Nat} {lo n : Int} (I : Nat → Env → Prop) (h : EvA K ta Γ [.int lo, .int n]) (hn : -100000 ≤ lo ∧ lo ≤ 100000 ∧ -100000 ≤ n ∧ n ≤ 100000) (h0 : I 0 Γ)
    (hs : ∀ (i : Nat) (Γ' : Env), lo + (i : Int) < n → I i Γ' → HT K E t (Γ'.set j (.da (.int (lo + (i : Int))))) (Turn1 I i P)) (hd : ∀ Γ', I (n - lo).toNat Γ' → P (.nx Γ')) : HT K E (tFor (iRng2 ta) (gName j) t) Γ P :=
  fun H0 G H σ D s gh hh m => h H0 G H σ s gh _ fun us G1 H1 e1 a1 => by
    have eu : us = [.int lo, .int n] := (show AtAll K G1 us ([lo, n].map .int) from a1).ints
    subst eu
    have m1 := m.step (e1.step hh)
    refine ⟨lo, n, rfl, ⟨by omega, by omega, by omega, by omega⟩, for_range (lo := lo) (n := (n - lo).toNat) (Pw K H0 G1 I) ⟨G1, Γ, (Ext.refl e1.gh).step (hh.trans e1.hh), s.ext e1, h0⟩ (fun i σ' H' hi p => ?_) (fun σ' H' p => ?_)⟩
    · obtain ⟨G', Γ', st, s', ii⟩ := p
      exact hs i Γ' (by omega) ii H0 G' H' _ _ (s'.setD (.int _)) st.gh st.hh (turn_meets m1 st)
    · obtain ⟨G', Γ', st, s', ii⟩ := p
      exact m1.nx Γ' σ' G' H' (hd Γ' ii) st s'
/-- for target in a list -/
theorem ht_forL {α : Type} (xs : List α) (emb : α → PyData) (Γx : Env → α → Env) {ws : List Nat} (I : Nat → Env → Prop) (h : EvD K te Γ (.list (xs.map emb))) (h0 : I 0 Γ)
    (hg : ∀ (Γ' : Env) (x : α), x ∈ xs → TgD K g (emb x) Γ' (Γx Γ' x) ws) (hs : ∀ (i : Nat) (x : α) (Γ' : Env), xs[i]? = some x → I i Γ' → HT K E t (Γx Γ' x) (Turn1 I i P)) (hd : ∀ Γ', I xs.length Γ' → P (.nx Γ')) :
    HT K E (tFor (iList K te) g t) Γ P :=
  fun H0 G H σ D s gh hh m => h H0 G H σ s gh _ fun v G1 H1 e1 a1 => by
    cases a1 with
    | lst l1 l2 =>
      rename_i l us
      have m1 := m.step (e1.step hh)
      have hl : us.length = xs.length := by rw [l2.length, List.length_map]
      refine ⟨l, rfl, ⟨us, SqL.of (e1.gh _ _ l1)⟩, for_list (xs := us) (Pw K H0 G1 I) ⟨G1, Γ, (Ext.refl e1.gh).step (hh.trans e1.hh), s.ext e1, h0⟩ (fun i σ' H' _ p => ?_) (fun i v σ' H' hi p => ?_) (fun σ' H' p => ?_)⟩
      · obtain ⟨G', Γ', st, s', ii⟩ := p
        exact SqL.of (st.gh _ _ (st.gg _ _ l1))
      · obtain ⟨G', Γ', st, s', ii⟩ := p
        obtain ⟨d, hd', ad⟩ := l2.getV hi
        rw [List.getElem?_map] at hd'
        obtain ⟨x, hx, rfl⟩ := Option.map_eq_some_iff.mp hd'
        exact hg Γ' x (List.mem_of_getElem? hx) H0 G' H' σ' v s' st.gh (ad.up st.gg) _ fun σ2 s2 _ _ => hs i x Γ' hx ii H0 G' H' σ2 _ s2 st.gh st.hh (turn_meets m1 st)
      · obtain ⟨G', Γ', st, s', ii⟩ := p
        rw [hl] at ii
        exact m1.nx Γ' σ' G' H' (hd Γ' ii) st s'
theorem ht_forN {α : Type} {j : Nat} (xs : List α) (emb : α → PyData) (I : Nat → Env → Prop) (h : EvD K te Γ (.list (xs.map emb))) (h0 : I 0 Γ)
    (hs : ∀ (i : Nat) (x : α) (Γ' : Env), xs[i]? = some x → I i Γ' → HT K E t (Γ'.set j (.da (emb x))) (Turn1 I i P)) (hd : ∀ Γ', I xs.length Γ' → P (.nx Γ')) : HT K E (tFor (iList K te) (gName j) t) Γ P :=
  ht_forL xs emb (fun Γ' x => Γ'.set j (.da (emb x))) I h h0 (fun Γ' x _ => tg_name) hs hd
/-- while, by a word that falls -/
def TurnW (I : Nat → Env → Prop) (m : Nat) (P : Out → Prop) : Out → Prop
  | .nx Γ' => ∃ m', m' < m ∧ I m' Γ'
  | .ct Γ' => ∃ m', m' < m ∧ I m' Γ'
  | .bk Γ' => P (.nx Γ')
  | .rt d => P (.rt d)
  | .ro ds => P (.ro ds)
  | .ex C => P (.ex C)
theorem ht_while (I : Nat → Env → Prop) {m0 : Nat} (h0 : I m0 Γ) (hs : ∀ (m : Nat) (Γ' : Env), I m Γ' → ∃ b, EvT K tt Γ' b ∧ (b = true → HT K E t Γ' (TurnW I m P)) ∧ (b = false → P (.nx Γ'))) : HT K E (tWhile tt t) Γ P :=
  fun H0 G H σ D s gh hh m => by
    refine ⟨fun n σ' H' => ∃ G' Γ', Step H0 G G' H' ∧ Sat K H0 G' H' σ' Γ' ∧ I n Γ', ⟨m0, G, Γ, (Ext.refl gh).step hh, s, h0⟩, ?_⟩
    rintro n σ' H' ⟨G', Γ', st, s', ii⟩
    obtain ⟨b, hb, h1, h2⟩ := hs n Γ' ii
    refine hb H0 G' H' σ' s' st.gh _ fun G2 H2 e2 => ?_
    have st2 : Step H0 G G2 H2 := st.trans (e2.step st.hh)
    cases b with
    | false =>
      show D.nx σ' H2
      exact m.nx Γ' σ' G2 H2 (h2 rfl) st2 (s'.ext e2)
    | true =>
      refine ⟨fun σ3 H3 => ∃ m', m' < n ∧ ∃ G3 Γ3, Step H0 G G3 H3 ∧ Sat K H0 G3 H3 σ3 Γ3 ∧ I m' Γ3, fun σ3 H3 ⟨m', hm, G3, Γ3, z⟩ => ⟨m', hm, G3, Γ3, z⟩, ?_⟩
      refine h1 rfl H0 G2 H2 σ' _ (s'.ext e2) e2.gh st2.hh ⟨fun Γ3 σ3 G3 H3 p q s3 => ?_, fun d v G3 H3 p q => m.rt d v G3 H3 p (st2.trans q), fun ds q us G3 H3 p z => m.ro ds q us G3 H3 p (st2.trans z), fun Γ3 σ3 G3 H3 p q s3 => m.nx Γ3 σ3 G3 H3 p (st2.trans q) s3, fun Γ3 σ3 G3 H3 p q s3 => ?_, fun C H3 p q => m.ex C H3 p q⟩
      · obtain ⟨m', hm, i'⟩ := p
        exact ⟨m', hm, G3, Γ3, st2.trans q, s3, i'⟩
      · obtain ⟨m', hm, i'⟩ := p
        exact ⟨m', hm, G3, Γ3, st2.trans q, s3, i'⟩
end

/-! ### a def -/
/-- what a def's body is to come to -/
def Post : Res → Out → Prop
  | .ok d, .rt e => e = d
  | .ok d, .nx _ => d = .none
  | .own ds, .ro es => es = ds
  | .er C, .ex C' => C' = C
  | _, _ => False
def env0 (N : List Str) (ds : List PyData) : Env := ds.map .da ++ List.replicate (N.length - ds.length) .no
theorem sat_start {K : PySem.W.Frag} {G H : Hp} {N : List Str} {vs : List V} {ds : List PyData} (a : AtAll K G vs ds) : Sat K H G H (L2.start N vs) (env0 N ds) := by
  have hl := a.length
  have nod : ∀ {i : Nat} {ks : List Int}, ¬ (env0 N ds)[i]? = some (.od ks) := fun {i ks} q => by
    unfold env0 at q
    by_cases hi : i < ds.length
    · rw [List.getElem?_append_left (by simpa using hi), List.getElem?_map] at q
      obtain ⟨e, he, z⟩ := Option.map_eq_some_iff.mp q
      cases z
    · rw [List.getElem?_append_right (by simpa using Nat.le_of_not_lt hi), List.getElem?_replicate] at q
      split at q <;> cases q
  refine ⟨by unfold L2.start env0; simp [hl], fun i d q => ?_, fun i es q => ?_, fun i j di dj p q1 q2 => ?_, fun i ks q => absurd q nod, fun i j di dj p q => absurd q nod, fun i v o q => ?_⟩
  · unfold env0 at q
    by_cases hi : i < ds.length
    · rw [List.getElem?_append_left (by simpa using hi), List.getElem?_map] at q
      obtain ⟨e, he, z⟩ := Option.map_eq_some_iff.mp q
      cases z
      obtain ⟨v, h1, h2⟩ := a.get he
      refine ⟨v, ?_, h2⟩
      unfold L2.start
      rw [List.getElem?_append_left (by simp; omega), List.getElem?_map, h1]
      rfl
    · rw [List.getElem?_append_right (by simpa using Nat.le_of_not_lt hi), List.getElem?_replicate] at q
      split at q <;> cases q
  · unfold env0 at q
    by_cases hi : i < ds.length
    · rw [List.getElem?_append_left (by simpa using hi), List.getElem?_map] at q
      obtain ⟨e, he, z⟩ := Option.map_eq_some_iff.mp q
      cases z
    · rw [List.getElem?_append_right (by simpa using Nat.le_of_not_lt hi), List.getElem?_replicate] at q
      split at q <;> cases q
  · unfold env0 at q1
    by_cases hi : i < ds.length
    · rw [List.getElem?_append_left (by simpa using hi), List.getElem?_map] at q1
      obtain ⟨e, he, z⟩ := Option.map_eq_some_iff.mp q1
      cases z
    · rw [List.getElem?_append_right (by simpa using Nat.le_of_not_lt hi), List.getElem?_replicate] at q1
      split at q1 <;> cases q1
  · unfold env0 at q
    by_cases hi : i < ds.length
    · rw [List.getElem?_append_left (by simpa using hi), List.getElem?_map] at q
      obtain ⟨e, he, z⟩ := Option.map_eq_some_iff.mp q
      cases z
    · rw [List.getElem?_append_right (by simpa using Nat.le_of_not_lt hi), List.getElem?_replicate] at q
      split at q <;> cases q
section
variable {Pg : Program} {w : World} {K : PySem.W.Frag} {mg : Str → Option Value} {base : Heap}
theorem body_of {S : List PyData → Res → Prop} {N : List Str} {t : TS} {vs : List V} {H : Hp} {Q : VK} {E : XK} (h : spOf K S vs H Q E) (hb : ∀ ds r, S ds r → HT K E t (env0 N ds) (Post r)) :
    t { nx := fun _ H' => Q .non H', rt := Q } (L2.start N vs) H := by
  obtain ⟨G, ds, r, gh, a, hs, q1, q2, q3⟩ := h
  refine hb ds r hs H G H _ _ (sat_start a) gh (Same.refl H) ⟨fun Γ' σ' G' H' p st s => ?_, fun d v G' H' p st av => ?_, fun es p us G' H' z st h0 g0 h1 av => ?_, fun Γ' σ' G' H' p st s => ?_, fun Γ' σ' G' H' p st s => ?_, fun C H' p st => ?_⟩
  · cases r with
    | ok d =>
      have e : d = .none := p
      subst e
      exact q1 _ rfl .non G' H' ⟨st.hh, st.gg, st.gh, st.fr⟩ .non
    | own es => exact False.elim p
    | er C => exact False.elim p
  · cases r with
    | ok d' =>
      have e : d = d' := p
      subst e
      exact q1 _ rfl v G' H' ⟨st.hh, st.gg, st.gh, st.fr⟩ av
    | own es => exact False.elim p
    | er C => exact False.elim p
  · cases r with
    | ok d' => exact False.elim z
    | own es' =>
      have e : es = es' := z
      subst e
      exact q2 _ rfl p us G' H' ⟨st.hh, st.gg, st.gh, st.fr⟩ h0 g0 h1 av
    | er C => exact False.elim z
  · cases r <;> exact False.elim p
  · cases r <;> exact False.elim p
  · cases r with
    | ok d' => exact False.elim p
    | own es' => exact False.elim p
    | er C' =>
      have e : C = C' := p
      subst e
      exact q3 _ rfl H' st
/-- a def keeps its contract -/
theorem fn_ok {x qual : Str} {st : Stmt} {f : Addr} {fd : FuncData} {N ps : List Str} {k : Nat} {S : List PyData → Res → Prop} (F : Fun K x qual st f fd) (Sc : FnScope N ps (defScope st)) (len : ∀ ds r, S ds r → ds.length = ps.length)
    (hbody : ∀ (cdv : Value) (A : Around) (outer : List PySem.Env) (s : Shared) (H : Hp) (E : XK), Room k (A.deeper (PyProof.Rows.envOfC qual (defScope st) s.heap.objs.size f cdv)) →
      ∃ t, PSs (cxOf (L2.CX Pg w) Pg w K mg base N qual (defScope st) f cdv A outer s H E) (defBody st) t ∧ ∀ ds r, S ds r → HT K E t (env0 N ds) (Post r)) : FnOk Pg w K mg base (L2.CX Pg w) (k + 1) f fd ps (spOf K S) := by
  refine F.okX Sc (fun vs H Q E h => ?_) (fun cdv A outer s H vs Q E hr h => ?_)
  · obtain ⟨G, ds, r, gh, a, hs, _⟩ := h
    rw [a.length]; exact len ds r hs
  · obtain ⟨t, h1, h2⟩ := hbody cdv A outer s H E hr
    exact ⟨t, h1, body_of h h2⟩
end
end PD

set_option Elab.async false
set_option linter.all false
set_option maxRecDepth 100000
set_option maxHeartbeats 1000000
/-! Derivations whose readings PD knows. -/
namespace PD
open PySem L2
section
variable {X : Cx} {a b c e : Expr} {ta tb tc te : TE} {pos : Pos}
theorem o_add : OpR X (binaryOp .Add) rAdd3 := OpR.or op_add (OpR.or op_add_str op_cat)
theorem o_sub : OpR X (binaryOp .Sub) rSubI := op_sub
theorem o_mul : OpR X (binaryOp .Mult) rMul2 := OpR.or op_mul op_rep
theorem o_mod : OpR X (binaryOp .Mod) rModI := op_mod
theorem o_div : OpR X (binaryOp .FloorDiv) rDivI := op_fdiv
theorem o_pow : OpR X (binaryOp .Pow) rPowI := op_pow
theorem o_eq (hu : X.A.units + 64 < cLine) : OpR X (compareOp .Eq) (rEq2 X.K) := OpR.or op_eq (op_eqD hu)
theorem o_ne (hu : X.A.units + 64 < cLine) : OpR X (compareOp .NotEq) (rNe2 X.K) := OpR.or op_ne (op_neD hu)
theorem o_lt : OpR X (compareOp .Lt) rLtI := op_lt
theorem o_le : OpR X (compareOp .LtE) rLeI := op_le
theorem o_gt : OpR X (compareOp .Gt) rGtI := op_gt
theorem o_ge : OpR X (compareOp .GtE) rGeI := op_ge
theorem o_isN : OpR X (compareOp .Is) rIsN := op_isN
theorem o_notN : OpR X (compareOp .IsNot) rNotN := op_notN
theorem c_len : CallR X (.builtin "len") (rLenV X.K) := call_len
theorem c_list : CallR X (.type "list") (rListV X.K) := call_list_of
theorem c_tuple : CallR X (.type "tuple") (rTupleV X.K) := call_tuple_of
theorem c_sum (hc : X.calm = true) : CallR X (.builtin "sum") (rSum X.K) := cr_sum hc
theorem c_max (hc : X.calm = true) : CallR X (.builtin "max") (rMax X.K) := cr_max hc
theorem c_all (hc : X.calm = true) : CallR X (.builtin "all") (rAll X.K) := cr_all hc
theorem c_max2 (hc : X.calm = true) : CallR X (.builtin "max") rMax2V := call_max2 hc
theorem c_min2 (hc : X.calm = true) : CallR X (.builtin "min") rMin2V := call_min2 hc
theorem c_int1 : CallR X (.type "int") rInt1V := call_int1
theorem c_isi : CallR X (.builtin "isinstance") (rIsi X.K) := call_isi
abbrev rStrI : List V → Hp → VK → Prop := fun xs H Q => ∃ i, xs = [.int i] ∧ i.natAbs.log2 < 1920 ∧ Q (.str (toString i)) H
theorem c_str : CallR X (.type "str") rStrI := call_str_int
theorem pass_call {E : XK} {E₁ : Value → Shared → Prop} (hs : X.stack = X.env :: X.outer) (hf : X.env.frame = some X.env.locals) (hex : X.ex = [])
    (hx : X.xe = fun e s' => wpAny (model X.prog X.w) X.A (leaving X.env e) (fun _ s'' => L2.CX X.prog X.w X.outer X.H_0 X.s_0 E e s'') E₁ s') : Passes (L2.CX X.prog X.w) X E :=
  passes_call (takes_of hs hf hex hx) (fun _ _ _ _ h => h)
/-- what a class of refusals must say -/
structure ExF (K : PySem.W.Frag) (mg : Str → Option Value) (x : Str) (C : Addr) : Prop where
  g : mg x = some (.ref C)
  k : PySem.W.keepIn K (.ref C) = true
  e : PySem.W.excIn K C [.type "ValueError", .type "Exception", .type "BaseException", .type "object"] "ValueError.__new__" = true
  s : PySem.W.subIn K (.ref C) (.type "BaseException") = some true
  t : PySem.W.typeIn K (.ref C) = some (.type "type")
theorem p_raise {E : XK} {E₁ : Value → Shared → Prop} {C : Addr} {x m : Str} {j : Nat} {p p2 pos pos2 : Pos} (F : ExF X.K X.mg x C) (hc : X.calm = true) (hs : X.stack = X.env :: X.outer) (hf : X.env.frame = some X.env.locals) (hex : X.ex = [])
    (hx : X.xe = fun e s' => wpAny (model X.prog X.w) X.A (leaving X.env e) (fun _ s'' => L2.CX X.prog X.w X.outer X.H_0 X.s_0 E e s'') E₁ s') (hg : Gl X x) (hdb : (x == ("__debug__" : Str)) = false := by decide) :
    PS X (.Raise (some (.Call (.Name x p) [.Constant (.str m) j p2] [] pos)) none pos2) (tRaiseC C E) :=
  ps_raise hc (takes_of hs hf hex hx) (pmk_own PySem.F.excBase_ValueError F.e F.g F.k (raises_own F.s F.t) hg hdb)
end

/-! ### more readings over data -/
section
variable {K : PySem.W.Frag} {Γ : Env} {ta tb te : TE} {E : XK} {P : Out → Prop}
/-- list(range(n)) -/
theorem eo_listRg {n : Int} (h : EvD K te Γ (.int n)) (hn : 0 ≤ n ∧ n ≤ 100000) : EvO K (tLstRg (tRg1 te)) Γ ((List.range n.toNat).map fun i : Nat => PyData.int (i : Int)) := fun H0 G H σ s gh Q q =>
  h H0 G H σ s gh _ fun v G1 H1 e1 a1 => by
    cases a1
    refine ⟨n, rfl, RgOk.of_le (by omega) (by omega) (by omega) (by omega), fun p hp => ?_⟩
    refine q p _ G1 _ (e1.trans (Ext.own e1.gh hp)) (e1.hh.free hp) (e1.gh.free hp) upd_same ?_
    have e : rgV 0 n = ((List.range n.toNat).map fun i : Nat => (i : Int)).map V.int := by
      unfold rgV
      rw [List.map_map, show (n - 0).toNat = n.toNat by omega]
      refine List.map_congr_left fun i _ => ?_
      show V.int (0 + (i : Int)) = V.int (i : Int)
      rw [Int.zero_add]
    have e2 : ((List.range n.toNat).map fun i : Nat => PyData.int (i : Int)) = ((List.range n.toNat).map fun i : Nat => (i : Int)).map PyData.int := by rw [List.map_map]; rfl
    rw [e, e2]
    exact atAll_ints _
theorem eo_listRg2 {lo n : Int} (h : EvD K ta Γ (.int lo)) (h2 : EvD K tb Γ (.int n)) (hl : 0 ≤ lo ∧ lo ≤ 100000) (hn : 0 ≤ n ∧ n ≤ 100000) : EvO K (tLstRg (tRg2 ta tb)) Γ ((List.range (n - lo).toNat).map fun i : Nat => PyData.int (lo + (i : Int))) := fun H0 G H σ s gh Q q =>
  h H0 G H σ s gh _ fun v G1 H1 e1 a1 => by
    cases a1
    refine h2 H0 G1 H1 σ (s.ext e1) e1.gh _ fun w G2 H2 e2 a2 => ?_
    cases a2
    have e12 := e1.trans e2
    refine ⟨lo, n, rfl, rfl, RgOk.of_le (by omega) (by omega) (by omega) (by omega), fun p hp => ?_⟩
    refine q p _ G2 _ (e12.trans (Ext.own e2.gh hp)) (e12.hh.free hp) (e2.gh.free hp) upd_same ?_
    have e : rgV lo n = ((List.range (n - lo).toNat).map fun i : Nat => lo + (i : Int)).map V.int := by
      unfold rgV
      rw [List.map_map]
      rfl
    have e2 : ((List.range (n - lo).toNat).map fun i : Nat => PyData.int (lo + (i : Int))) = ((List.range (n - lo).toNat).map fun i : Nat => lo + (i : Int)).map PyData.int := by rw [List.map_map]; rfl
    rw [e, e2]
    exact atAll_ints _
/-- xs.append(ys.pop(k)), both slots' own -/
theorem ht_appPop {i j : Nat} {ds es : List PyData} {k : Int} {d : PyData} (hij : i ≠ j) (hi : Γ[i]? = some (.ow ds)) (hj : Γ[j]? = some (.ow es)) (h : EvD K te Γ (.int k)) (k0 : 0 ≤ k) (hd : es[k.toNat]? = some d) (hz : ds.length < 100000) (hz2 : es.length < 100000)
    (p : P (.nx ((Γ.set j (.ow (es.eraseIdx k.toNat))).set i (.ow (ds ++ [d]))))) :
    HT K E (tDrop (tBM K "list" rAppend (tVar i) (tCons (tBM K "list" rPopAt (tVar j) (tCons te tNil)) tNil))) Γ P := fun H0 G H σ D s gh h0 m => by
  obtain ⟨q, vs, k1, k2, k3, k4, k5⟩ := s.ow i ds hi
  obtain ⟨r, ws, l1, l2, l3, l4, l5⟩ := s.ow j es hj
  have qr : q ≠ r := fun e => by subst e; exact hij (s.ne i j ds es q hi hj k1 l1)
  refine ⟨_, k1, .inl ⟨rfl, vs, SqL.of k2⟩, ?_⟩
  refine ⟨_, l1, .inl ⟨rfl, ws, SqL.of l2⟩, ?_⟩
  refine h H0 G H σ s gh _ fun v G1 H1 e1 a1 => ?_
  cases a1
  have r1 : H1 r = some (.lst ws) := e1.hh _ _ l2
  have q1 : H1 q = some (.lst vs) := e1.hh _ _ k2
  have gr : G1 r = none := e1.fr r l3 (by rw [l2]; exact fun z => nomatch z)
  have gq : G1 q = none := e1.fr q k3 (by rw [k2]; exact fun z => nomatch z)
  have kl : k.toNat < es.length := (List.getElem?_eq_some_iff.mp hd).1
  obtain ⟨v, hv, av⟩ := l5.get hd
  have hw : ws.length = es.length := l5.length
  refine ⟨r, ws, k, k.toNat, v, rfl, rfl, r1, by omega, by omega, ?_, hv, ?_⟩
  · exact seqIndex_of k0 (by rw [hw]; omega)
  · refine ⟨q, vs, v, rfl, rfl, by rw [upd_ne qr]; exact q1, by rw [k5.length]; exact Nat.lt_trans hz (by decide), ?_⟩
    have s1 := (s.ext e1).write (vs := ws.eraseIdx k.toNat) hj l1 ((l5.up e1.gg).erase k.toNat)
    have hi' : (Γ.set j (.ow (es.eraseIdx k.toNat)))[i]? = some (.ow ds) := by rw [List.getElem?_set_ne (Ne.symm hij)]; exact hi
    refine m.nx _ _ G1 _ p ⟨fun b x z => ?_, e1.gg, fun b x z => ?_, fun a z n => e1.fr a z (some_up h0 n)⟩ (s1.write hi' k1 ((k5.up e1.gg).snoc (av.up e1.gg)))
    · rw [upd_ne (ne_of_none z k4), upd_ne (ne_of_none z l4)]; exact e1.hh _ _ (h0 _ _ z)
    · rw [upd_ne (ne_of_none z gq), upd_ne (ne_of_none z gr)]; exact e1.gh _ _ z
/-- xs.index(y) of ints -/
theorem ev_index {ns : List Int} {y : Int} {j : Nat} (ha : EvD K ta Γ (.list (ns.map .int))) (hb : EvD K tb Γ (.int y)) (hj : ns[j]? = some y) (hn : ∀ m, m < j → ns[m]? ≠ some y) : EvD K (tBM K "list" (rIndex K) ta (tCons tb tNil)) Γ (.int (j : Int)) := fun H0 G H σ s gh Q q =>
  ha H0 G H σ s gh _ fun v G1 H1 e1 a1 => by
    cases a1 with
    | lst l1 l2 =>
      rename_i l us
      have e := l2.ints
      subst e
      refine ⟨.inl ⟨rfl, _, SqL.of (e1.gh _ _ l1)⟩, ?_⟩
      refine hb H0 G1 H1 σ (s.ext e1) e1.gh _ fun w G2 H2 e2 a2 => ?_
      cases a2
      refine ⟨l, ns.map V.int, .int y, j, .int y, rfl, rfl, SqL.of (e2.gh _ _ (e2.gg _ _ l1)), rfl, all_flat (K := K) (G := G), ?_, by simp [eqV], fun m z hm hz => ?_, q _ G2 H2 (e1.trans e2) (.int _)⟩
      · rw [List.getElem?_map, hj]; rfl
      · rw [List.getElem?_map] at hz
        obtain ⟨k, hk, rfl⟩ := Option.map_eq_some_iff.mp hz
        have : k ≠ y := fun e => hn m hm (by rw [hk, e])
        simpa [eqV] using this
/-- -i -/
theorem ev_neg {i : Int} (ha : EvD K ta Γ (.int i)) : EvD K (tUn (rU fun i => .int (-i)) ta) Γ (.int (-i)) := fun H0 G H σ s gh Q q => ha H0 G H σ s gh _ fun v G1 H1 e1 a1 => by
  cases a1
  exact ⟨i, rfl, q _ G1 H1 e1 (.int _)⟩
/-! ### what raises, on the way -/
theorem xa_head {ta : TE} {tr : TA} {C : Addr} (h : EvX K E ta Γ C) : ExA K E (tCons ta tr) Γ C := fun H0 G H σ s gh hE Q => h H0 G H σ s gh hE _
theorem xa_tail {ta : TE} {tr : TA} {C : Addr} {d : PyData} (h : EvD K ta Γ d) (hr : ExA K E tr Γ C) : ExA K E (tCons ta tr) Γ C := fun H0 G H σ s gh hE Q => h H0 G H σ s gh _ fun v G1 H1 e1 _ => hr H0 G1 H1 σ (s.ext e1) e1.gh (fun H' e => hE H' (e1.hh.trans e)) _
theorem ex_tup {ta : TA} {C : Addr} (h : ExA K E ta Γ C) : EvX K E (tTup ta) Γ C := fun H0 G H σ s gh hE Q => h H0 G H σ s gh hE _
theorem ex_opL {r : R2} {C : Addr} (h : EvX K E ta Γ C) : EvX K E (tOp r ta tb) Γ C := fun H0 G H σ s gh hE Q => h H0 G H σ s gh hE _
theorem ex_opR {r : R2} {C : Addr} {d : PyData} (h : EvD K ta Γ d) (h2 : EvX K E tb Γ C) : EvX K E (tOp r ta tb) Γ C := fun H0 G H σ s gh hE Q => h H0 G H σ s gh _ fun v G1 H1 e1 _ => h2 H0 G1 H1 σ (s.ext e1) e1.gh (fun H' e => hE H' (e1.hh.trans e)) _
theorem xt_test {C : Addr} (h : EvX K E te Γ C) : ExT K E (tTest te) Γ C := fun H0 G H σ s gh hE Q => h H0 G H σ s gh hE _
theorem xt_B {C : Addr} (h : EvX K E te Γ C) : ExT K E (tB te) Γ C := fun H0 G H σ s gh hE Q => h H0 G H σ s gh hE _
theorem xt_orL {t u : TT} {C : Addr} (h : ExT K E t Γ C) : ExT K E (tOr t u) Γ C := fun H0 G H σ s gh hE Q => h H0 G H σ s gh hE _
theorem xt_orR {t u : TT} {C : Addr} (h : EvT K t Γ false) (h2 : ExT K E u Γ C) : ExT K E (tOr t u) Γ C := fun H0 G H σ s gh hE Q => h H0 G H σ s gh _ fun G1 H1 e1 => h2 H0 G1 H1 σ (s.ext e1) e1.gh (fun H' e => hE H' (e1.hh.trans e)) Q
theorem ht_ifX {tt : TT} {t u : TS} {C : Addr} (h : ExT K E tt Γ C) (p : P (.ex C)) : HT K E (tIfS tt t u) Γ P := fun H0 G H σ D s gh h0 m => h H0 G H σ s gh (fun H' e => m.ex C H' p (h0.trans e)) _
/-- xs.append(e), e raises -/
theorem ht_appX {i : Nat} {ds : List PyData} {C : Addr} (hi : Γ[i]? = some (.ow ds)) (h : EvX K E te Γ C) (p : P (.ex C)) : HT K E (tDrop (tBM K "list" rAppend (tVar i) (tCons te tNil))) Γ P := fun H0 G H σ D s gh h0 m => by
  obtain ⟨q, vs, k1, k2, k3, k4, k5⟩ := s.ow i ds hi
  refine ⟨_, k1, .inl ⟨rfl, vs, SqL.of k2⟩, ?_⟩
  exact h H0 G H σ s gh (fun H' e => m.ex C H' p (h0.trans e)) _
end
/-! ### built-ins -/
theorem bt_len : bootBuiltins "len" = some (.builtin "len") := by decide +kernel
theorem bt_isinstance : bootBuiltins "isinstance" = some (.builtin "isinstance") := by decide +kernel
theorem bt_list : bootBuiltins "list" = some (.type "list") := by decide +kernel
theorem bt_tuple : bootBuiltins "tuple" = some (.type "tuple") := by decide +kernel
theorem bt_int : bootBuiltins "int" = some (.type "int") := by decide +kernel
theorem bt_bool : bootBuiltins "bool" = some (.type "bool") := by decide +kernel
theorem bt_str : bootBuiltins "str" = some (.type "str") := by decide +kernel
theorem bt_dict : bootBuiltins "dict" = some (.type "dict") := by decide +kernel
theorem bt_max : bootBuiltins "max" = some (.builtin "max") := by decide +kernel
theorem bt_min : bootBuiltins "min" = some (.builtin "min") := by decide +kernel
theorem bt_sum : bootBuiltins "sum" = some (.builtin "sum") := by decide +kernel
theorem bt_all : bootBuiltins "all" = some (.builtin "all") := by decide +kernel
theorem bt_sorted : bootBuiltins "sorted" = some (.builtin "sorted") := by decide +kernel
end PD
namespace PD
open PySem L2
/-- a def of the text as it stands behind the top -/
structure Def1 (K : PySem.W.Frag) (mg : Str → Option Value) (name : Str) (st : Stmt) (ps : List Str) : Type where
  f : Addr
  fd : FuncData
  F : Fun K name name st f fd
  m : mg name = some (.ref f)
  b : Binds K fd ps []
theorem law_sp {K : PySem.W.Frag} {S : List PyData → Res → Prop} {H : Hp} {a : Addr} {ns : List Int} (hS : SqL K H a (ns.map V.int)) (h : S [scr ns] (.ok (.bool true))) :
    spOf K S [.ref a] H (fun v _ => v = .bl true) fun _ _ _ => False :=
  ⟨H, [scr ns], .ok (.bool true), Same.refl H, .cons (At.ofScr hS) .nil, h, fun d z v G' H' e a => by cases z; cases a; rfl, fun _ z => (nomatch z), fun _ z => (nomatch z)⟩
theorem no_cx {P : Program} {w : World} {H : Hp} {s : Shared} {e : Value} {s' : Shared} (h : L2.CX P w [] H s (fun _ _ _ => False) e s') : False := by
  obtain ⟨_, _, _, _, _, _, _, _, _, _, _, _, z⟩ := h
  exact z
end PD

set_option Elab.async false
set_option linter.all false
set_option maxRecDepth 100000
set_option maxHeartbeats 1000000
/-! try, and what is asked of a caught error. -/
namespace PD
open PySem L2
def tTry (K : PySem.W.Frag) (c : Value) (tb : WX → TS) (ts : Addr → Value → Option Addr → TS) (Wout : WX) : TS := fun D σ H => tb (wOnly K c ts Wout D) D σ H
def tTryAs (K : PySem.W.Frag) (c : Value) (i : Nat) (tb : WX → TS) (ts : Addr → Value → Option Addr → TS) (Wout : WX) : TS := fun D σ H => tb (wAs K c i ts Wout D) D σ H
def tTryMany (K : PySem.W.Frag) (tb : WX → TS) (l : List (Value × (Addr → Value → Option Addr → TS))) (Wout : WX) : TS := fun D σ H => tb (wMany K Wout D l) D σ H
section
variable {X : Cx} {x : Str} {c : Value} {body suite : List Stmt} {b₀ : Stmt} {np pos pos' : Pos} {tb : WX → TS} {ts : Addr → Value → Option Addr → TS} {Wout : WX}
theorem p_try (hs : X.stack = X.env :: X.outer) (hf : X.env.frame = some X.env.locals) (hc : Names X x c) (tk : Takes X Wout)
    (hb : ∀ (W : WX) (pn : List (Addr × Obj)) (xe : Value → Shared → Prop), Takes (X.tr pn xe) W → PassesOwn (model X.prog X.w) X.A X.env xe → PSs (X.tr pn xe) body (tb W))
    (hsu : ∀ (a : Addr) (oe : Obj) (cls : Value) (d : Option Addr) (pn : List (Addr × Obj)), Zc cls d oe → (∃ vs, oe.data = .fields vs) → PSs (X.suite a ((a, oe) :: pn)) (b₀ :: suite) (ts a cls d)) :
    PS X (.Try body [.ExceptHandler (some (.Name x np)) none (b₀ :: suite) pos'] [] [] pos) (tTry X.K c tb ts Wout) := ps_try_only hs hf hc tk hb hsu
theorem p_try_as {i : Nat} {n : Str} (hs : X.stack = X.env :: X.outer) (hf : X.env.frame = some X.env.locals) (hN : X.N.Nodup) (hi : X.N[i]? = some n) (hln : X.env.kindOf n = some .local) (hc : Names X x c) (tk : Takes X Wout)
    (hb : ∀ (W : WX) (pn : List (Addr × Obj)) (xe : Value → Shared → Prop), Takes (X.tr pn xe) W → PassesOwn (model X.prog X.w) X.A X.env xe → PSs (X.tr pn xe) body (tb W))
    (hsu : ∀ (a : Addr) (oe : Obj) (cls : Value) (d : Option Addr) (pn : List (Addr × Obj)), Zc cls d oe → (∃ vs, oe.data = .fields vs) → PSs (X.suite a ((a, oe) :: pn)) (b₀ :: suite) (ts a cls d)) :
    PS X (.Try body [.ExceptHandler (some (.Name x np)) (some n) (b₀ :: suite) pos'] [] [] pos) (tTryAs X.K c i tb ts Wout) := ps_try_as hs hf hN hi hln hc tk hb hsu
theorem p_try_many {h₀ : ExceptHandler} {hds : List ExceptHandler} {l : List (Value × (Addr → Value → Option Addr → TS))} (hs : X.stack = X.env :: X.outer) (hf : X.env.frame = some X.env.locals) (tk : Takes X Wout)
    (hb : ∀ (W : WX) (pn : List (Addr × Obj)) (xe : Value → Shared → Prop), Takes (X.tr pn xe) W → PassesOwn (model X.prog X.w) X.A X.env xe → PSs (X.tr pn xe) body (tb W))
    (hh : HdsOk X (h₀ :: hds) l) : PS X (.Try body (h₀ :: hds) [] [] pos) (tTryMany X.K tb l Wout) := ps_try_many hs hf tk hb hh
end
/-- what is told of the errors of the class at C: by except clauses, by isinstance -/
structure TF (K : PySem.W.Frag) (C : Addr) (xs ys : List (Value × Bool)) : Prop where
  x : ExcC K C
  e : ∀ p ∈ xs, PySem.W.exmOne K (.ref C) p.1 = some p.2
  k : ∀ p ∈ ys, PySem.W.kitOne K (.ref C) p.1 = some p.2
theorem tf_nil {P : Value × Bool → Prop} : ∀ p ∈ ([] : List (Value × Bool)), P p := fun _ h => nomatch h
theorem tf_cons {P : Value × Bool → Prop} {x : Value × Bool} {xs : List (Value × Bool)} (h : P x) (r : ∀ p ∈ xs, P p) : ∀ p ∈ x :: xs, P p := fun p hp => by
  rcases List.mem_cons.mp hp with e | e
  · rw [e]; exact h
  · exact r p e
/-- isinstance(e, c), e the error that the suite holds, c one class -/
def rIsE1 (K : PySem.W.Frag) (cls : Value) (d : Option Addr) (a : Addr) : List V → Hp → VK → Prop := fun xs H Q => ∃ (D : Addr) (c : V) (cv : Value) (b : Bool), cls = .ref D ∧ d = none ∧ ExcC K D ∧ xs = [.ref a, c] ∧ ClsV c cv ∧ PySem.W.kitOne K (.ref D) cv = some b ∧ Q (.bl b) H
theorem c_isE1 {X : Cx} {a : Addr} {cls : Value} {d : Option Addr} {oe : Obj} {pn : List (Addr × Obj)} (hz : Zc cls d oe) (hf : ∃ vs, oe.data = .fields vs) : CallR (X.suite a ((a, oe) :: pn)) (.builtin "isinstance") (rIsE1 X.K cls d a) := by
  intro pins s σ H xs us Q I r h
  obtain ⟨D, c, cv, b, rfl, rfl, hx, rfl, hcv, e, q⟩ := h
  exact call_isE hx hz hf pins s σ H _ us Q I r ⟨c, cv, b, rfl, fun u ru => hcv.eq ru, e, q⟩
/-- .. a tuple of classes -/
def rIsET (K : PySem.W.Frag) (cls : Value) (d : Option Addr) (a : Addr) : List V → Hp → VK → Prop := fun xs H Q => ∃ (D tp : Addr) (cs : List V) (ws : List Value) (b : Bool), cls = .ref D ∧ d = none ∧ ExcC K D ∧ xs = [.ref a, .ref tp] ∧ H tp = some (.tup cs) ∧ Paired ClsV cs ws ∧ PySem.W.kitAny K (.ref D) ws = some b ∧ Q (.bl b) H
theorem c_isET {X : Cx} {a : Addr} {cls : Value} {d : Option Addr} {oe : Obj} {pn : List (Addr × Obj)} (hz : Zc cls d oe) (hf : ∃ vs, oe.data = .fields vs) : CallR (X.suite a ((a, oe) :: pn)) (.builtin "isinstance") (rIsET X.K cls d a) := by
  intro pins s σ H xs us Q I r h
  obtain ⟨D, tp, cs, ws, b, rfl, rfl, C, rfl, hT, k, e, q⟩ := h
  obtain ⟨u1, u2, rfl, r1, r2⟩ := vals2 r
  cases (show u1 = Value.ref a from r1)
  cases (show u2 = Value.ref tp from r2)
  obtain ⟨hget, _⟩ := I.pin (a, oe) (List.mem_append.mpr (.inl List.mem_cons_self))
  obtain ⟨vs, hv⟩ := hf
  have J : PySem.W.InstAt s.heap a oe D none := by
    obtain ⟨oc, od, oda, osl⟩ := oe
    obtain ⟨h1, h2⟩ := hz
    dsimp only at h1 h2 hv
    subst h1 h2 hv
    exact ⟨hget, rfl, rfl, trivial⟩
  obtain ⟨_, its, rv, o, h1, h2, n, h3⟩ := (show ObjOk X.prog X.w H s.heap tp (.tup cs) from I.hok tp _ hT)
  have e3 := ClsV.all k rv
  subst e3
  obtain ⟨oc, od, dt, sl⟩ := o
  simp only at h2 h3
  subst h2 h3
  exact PySem.W.kia_tup (PySem.W.handS_kitx_exc C.hg C.hk C.hs C.hd C.ha C.hn C.ht C.hm) I.kIn J h1 e (fun z => nomatch z) fun tk => ⟨.bl b, H, I.kept (t' := tk) fun _ _ z => z, rfl, q⟩
section
variable {K : PySem.W.Frag} {E : XK} {Γ : Env} {P : Out → Prop} {ta : TA} {S : List PyData → Res → Prop} {ds : List PyData} {c : Value} {ts : Addr → Value → Option Addr → TS} {Wout : WX} {i : Nat}
/-- the body calls one function, and that comes back -/
theorem ht_tryD {d : PyData} (h : EvA K ta Γ ds) (hs : S ds (.ok d)) (p : P (.nx Γ)) : HT K E (tTry K c (fun W => tDrop (tCallS (spOf K S) (WE W) ta)) ts Wout) Γ P := fun H0 G H σ D s gh h0 m =>
  h H0 G H σ s gh _ fun vs G1 H1 e1 a1 => ⟨G1, ds, .ok d, e1.gh, a1, hs, fun d' z v G' H' e a => by
    have e2 := e1.trans e
    exact m.nx _ _ G' H' p (e2.step h0) (s.ext e2), fun es z => (nomatch z), fun C z => (nomatch z)⟩
/-- .. and that raises what the clause takes -/
theorem ht_tryX {C : Addr} (h : EvA K ta Γ ds) (hs : S ds (.er C)) (hm : PySem.W.exmOne K (.ref C) c = some true) (hsu : ∀ a, HT K E (ts a (.ref C) none) Γ P) : HT K E (tTry K c (fun W => tDrop (tCallS (spOf K S) (WE W) ta)) ts Wout) Γ P := fun H0 G H σ D s gh h0 m =>
  h H0 G H σ s gh _ fun vs G1 H1 e1 a1 => ⟨G1, ds, .er C, e1.gh, a1, hs, fun d z => (nomatch z), fun es z => (nomatch z), fun C' z H' e => by
    cases z
    refine ⟨true, hm, fun _ a ha => ?_, fun z => nomatch z⟩
    have e2 := e1.trans (Ext.grow e1.gh e)
    exact hsu a H0 G1 H' σ D (s.ext e2) e2.gh (h0.trans e2.hh) (m.step (e2.step h0))⟩
def TryEnd (i : Nat) (P : Out → Prop) : Out → Prop
  | .nx Γ' => P (.nx (Γ'.set i .no))
  | .bk Γ' => P (.bk (Γ'.set i .no))
  | .ct Γ' => P (.ct (Γ'.set i .no))
  | o => P o
theorem ht_tryAsX {C : Addr} (h : EvA K ta Γ ds) (hs : S ds (.er C)) (hm : PySem.W.exmOne K (.ref C) c = some true) (hsu : ∀ a, HT K E (ts a (.ref C) none) (Γ.set i (.rf a)) (TryEnd i P)) : HT K E (tTryAs K c i (fun W => tDrop (tCallS (spOf K S) (WE W) ta)) ts Wout) Γ P := fun H0 G H σ D s gh h0 m =>
  h H0 G H σ s gh _ fun vs G1 H1 e1 a1 => ⟨G1, ds, .er C, e1.gh, a1, hs, fun d z => (nomatch z), fun es z => (nomatch z), fun C' z H' e => by
    cases z
    refine ⟨true, hm, fun _ a ha => ?_, fun z => nomatch z⟩
    have e2 := e1.trans (Ext.grow e1.gh e)
    have m2 := m.step (e2.step h0)
    exact hsu a H0 G1 H' _ _ ((s.ext e2).setR) e2.gh (h0.trans e2.hh) ⟨fun Γ' σ' G' H' p q s' => m2.nx _ _ G' H' p q s'.setN, fun d v G' H' p q => m2.rt d v G' H' p q, fun ds q us G' H' p z => m2.ro ds q us G' H' p z,
      fun Γ' σ' G' H' p q s' => m2.bk _ _ G' H' p q s'.setN, fun Γ' σ' G' H' p q s' => m2.ct _ _ G' H' p q s'.setN, fun C H' p q => m2.ex C H' p q⟩⟩
/-- the answer of isinstance(e, c) -/
theorem ev_isE1 {D a : Addr} {n : V} {cv : Value} {b : Bool} (hi : Γ[i]? = some (.rf a)) (C : ExcC K D) (hn : ClsV n cv) (hk : PySem.W.kitOne K (.ref D) cv = some b) : EvD K (tCB (rIsE1 K (.ref D) none a) (tCons (tVar i) (tCons (tC n) tNil))) Γ (.bool b) := fun H0 G H σ s gh Q q =>
  ⟨_, s.rf i a hi, D, n, cv, b, rfl, rfl, C, rfl, hn, hk, q _ G H (Ext.refl gh) (.bl b)⟩
/-- classes as constants -/
def cA : List Addr → TA
  | [] => tNil
  | a :: r => tCons (tC (.ref a)) (cA r)
theorem cA_run {σ : St} {H : Hp} : ∀ (cs : List Addr) (Q : List V → Hp → Prop), Q (cs.map V.ref) H → cA cs σ H Q
  | [], Q, q => q
  | a :: r, Q, q => cA_run (σ := σ) r (fun vs H1 => Q (V.ref a :: vs) H1) q
theorem ev_isET {D a : Addr} {b : Bool} (cs : List Addr) (hi : Γ[i]? = some (.rf a)) (C : ExcC K D) (hl : cs.length ≤ 100000) (hk : PySem.W.kitAny K (.ref D) (cs.map Value.ref) = some b) : EvD K (tCB (rIsET K (.ref D) none a) (tCons (tVar i) (tCons (tTup (cA cs)) tNil))) Γ (.bool b) := fun H0 G H σ s gh Q q => by
  refine ⟨_, s.rf i a hi, ?_⟩
  refine cA_run cs _ ?_
  refine ⟨by rw [List.length_map]; exact Nat.le_trans hl (by decide), fun p hp => ?_⟩
  have e := Ext.own gh (o := .tup (cs.map V.ref)) hp
  refine ⟨D, p, cs.map V.ref, cs.map Value.ref, b, rfl, rfl, C, rfl, upd_same, ?_, hk, q _ _ _ e (.bl b)⟩
  clear hk hl
  induction cs with
  | nil => exact .nil
  | cons c r ih => exact .cons (.own c) (ih (Ext.own gh hp))
theorem any_no {D : Value} {c : Addr} {cs : List Addr} {r : Bool} (h : PySem.W.kitOne K D (.ref c) = some false) (hr : PySem.W.kitAny K D (cs.map Value.ref) = some r) : PySem.W.kitAny K D ((c :: cs).map Value.ref) = some r := by
  show PySem.W.kitAny K D (Value.ref c :: cs.map Value.ref) = some r
  unfold PySem.W.kitAny
  rw [h]
  exact hr
theorem any_nil {D : Value} : PySem.W.kitAny K D (([] : List Addr).map Value.ref) = some false := rfl
end
theorem bt_ValueError : bootBuiltins "ValueError" = some (.type "ValueError") := by decide +kernel
end PD
namespace PD
open PySem L2
theorem cls_some {K : PySem.W.Frag} {c : Addr} (hd : PySem.W.hasDictIn K c = true) (ht : PySem.W.typeIn K (.ref c) = some (.type "type")) : ((PySem.W.clsIn K c).isSome && PySem.W.typeIn K (.ref c) == some (.type "type")) = true := by
  obtain ⟨cd, hc, _⟩ := PySem.W.any_some hd
  rw [hc, ht] <;> rfl
theorem kit_own {K : PySem.W.Frag} {C c : Addr} {b : Bool} (hs : PySem.W.subIn K (.ref C) (.ref C) = some true) (h : PySem.W.subIn K (.ref C) (.ref c) = some b) (hd : PySem.W.hasDictIn K c = true) (ht : PySem.W.typeIn K (.ref c) = some (.type "type")) :
    PySem.W.kitOne K (.ref C) (.ref c) = some b := by
  have e2 : PySem.W.kitCls K (.ref C) (.ref c) = some b := by
    show (if ((PySem.W.clsIn K c).isSome && PySem.W.typeIn K (.ref c) == some (.type "type")) = true then PySem.W.subIn K (.ref C) (.ref c) else none) = some b
    rw [if_pos (cls_some hd ht)]
    exact h
  by_cases z : (Value.ref C == Value.ref c) = true
  · have e : C = c := Value.ref.inj (beq_iff_eq.mp z)
    subst e
    rw [hs] at h
    cases h
    unfold PySem.W.kitOne
    rw [if_pos z]
  · unfold PySem.W.kitOne
    rw [if_neg z]
    exact e2
theorem kit_ve {K : PySem.W.Frag} {C : Addr} (h : PySem.W.subIn K (.ref C) (.type "ValueError") = some true) : PySem.W.kitOne K (.ref C) (.type "ValueError") = some true := by
  have z : ¬ (Value.ref C == Value.type "ValueError") = true := fun z => nomatch (beq_iff_eq.mp z)
  have m : PySem.W.kitMeta "ValueError" = true := by decide +kernel
  unfold PySem.W.kitOne
  rw [if_neg z]
  show (if PySem.W.kitMeta "ValueError" = true then PySem.W.subIn K (.ref C) (.type "ValueError") else none) = some true
  rw [if_pos m]
  exact h
end PD

set_option Elab.async false
set_option linter.all false
set_option maxRecDepth 100000
set_option maxHeartbeats 1000000
/-! roomshare/tables.py: the contracts and what the bodies do. -/
namespace PD
open PySem L2
/-- where the classes stand -/
structure CA where
  sh : Addr
  bt : Addr
  br : Addr
  be : Addr
  nb : Addr
  nd : Addr
  ho : Addr
abbrev li (ns : List Int) : PyData := .list (ns.map .int)
abbrev tb (rows : List (List Int)) : PyData := .list (rows.map li)
abbrev ln (R : List Nat) : PyData := .list (R.map fun r : Nat => .int (r : Int))

/-! ### kinds -/
def whole : PyData → Bool
  | .int _ => true
  | _ => false
def isInt : PyData → Bool
  | .int _ => true
  | .bool _ => true
  | _ => false
def isBool : PyData → Bool
  | .bool _ => true
  | _ => false
def isList : PyData → Bool
  | .list _ => true
  | .dict (_ :: _) => true
  | _ => false
def isTup : PyData → Bool
  | .tuple _ => true
  | _ => false
/-- anything but the script -/
def pd : PyData → Bool
  | .dict (_ :: _) => false
  | _ => true
theorem kit_int : ∀ d : PyData, kitB (tyD d) "int" = some (isInt d)
  | .none => by decide +kernel
  | .bool b => by show kitB "bool" "int" = some true; decide +kernel
  | .int i => by show kitB "int" "int" = some true; decide +kernel
  | .str s => by show kitB "str" "int" = some false; decide +kernel
  | .list xs => by show kitB "list" "int" = some false; decide +kernel
  | .tuple xs => by show kitB "tuple" "int" = some false; decide +kernel
  | .dict [] => by show kitB "dict" "int" = some false; decide +kernel
  | .dict (_ :: _) => by show kitB "list" "int" = some false; decide +kernel
theorem kit_bool : ∀ d : PyData, kitB (tyD d) "bool" = some (isBool d)
  | .none => by decide +kernel
  | .bool b => by show kitB "bool" "bool" = some true; decide +kernel
  | .int i => by show kitB "int" "bool" = some false; decide +kernel
  | .str s => by show kitB "str" "bool" = some false; decide +kernel
  | .list xs => by show kitB "list" "bool" = some false; decide +kernel
  | .tuple xs => by show kitB "tuple" "bool" = some false; decide +kernel
  | .dict [] => by show kitB "dict" "bool" = some false; decide +kernel
  | .dict (_ :: _) => by show kitB "list" "bool" = some false; decide +kernel
theorem kit_list : ∀ d : PyData, kitB (tyD d) "list" = some (isList d)
  | .none => by decide +kernel
  | .bool b => by show kitB "bool" "list" = some false; decide +kernel
  | .int i => by show kitB "int" "list" = some false; decide +kernel
  | .str s => by show kitB "str" "list" = some false; decide +kernel
  | .list xs => by show kitB "list" "list" = some true; decide +kernel
  | .tuple xs => by show kitB "tuple" "list" = some false; decide +kernel
  | .dict [] => by show kitB "dict" "list" = some false; decide +kernel
  | .dict (_ :: _) => by show kitB "list" "list" = some true; decide +kernel
theorem kit_tup : ∀ d : PyData, kitB (tyD d) "tuple" = some (isTup d)
  | .none => by decide +kernel
  | .bool b => by show kitB "bool" "tuple" = some false; decide +kernel
  | .int i => by show kitB "int" "tuple" = some false; decide +kernel
  | .str s => by show kitB "str" "tuple" = some false; decide +kernel
  | .list xs => by show kitB "list" "tuple" = some false; decide +kernel
  | .tuple xs => by show kitB "tuple" "tuple" = some true; decide +kernel
  | .dict [] => by show kitB "dict" "tuple" = some false; decide +kernel
  | .dict (_ :: _) => by show kitB "list" "tuple" = some false; decide +kernel
theorem whole_eq (d : PyData) : (isInt d && !isBool d) = whole d := by cases d <;> rfl
theorem of_whole {d : PyData} (h : whole d = true) : ∃ i, d = .int i := by
  cases d with
  | int i => exact ⟨i, rfl⟩
  | _ => cases h
theorem of_list {d : PyData} (h : isList d = true) (p : pd d = true) : ∃ xs, d = .list xs := by
  cases d with
  | list xs => exact ⟨xs, rfl⟩
  | dict kvs => cases kvs with
    | nil => cases h
    | cons a b => cases p
  | _ => cases h
section
variable {K : PySem.W.Frag} {c : CA} {E : XK} {Γ : Env} {ta tb : TE} {ds : List PyData} {r : Res}

/-! ### is_whole -/
def S_is_whole (c : CA) (ds : List PyData) (r : Res) : Prop := ∃ d, ds = [d] ∧ r = .ok (.bool (whole d))
abbrev t_is_whole (K : PySem.W.Frag) (c : CA) (E : XK) : TS :=
  (tRet (tAndV (tCB (rIsi K) (tCons (tVar 0) (tCons (tC (.ty "int")) tNil))) (tNotV (tCB (rIsi K) (tCons (tVar 0) (tCons (tC (.ty "bool")) tNil))))))
abbrev N_is_whole : List Str := ["thing"]
theorem ht_is_whole (h : S_is_whole c ds r) : HT K E (t_is_whole K c E) (env0 N_is_whole ds) (Post r) := by
  obtain ⟨d, rfl, rfl⟩ := h
  refine ht_ret (d := .bool (whole d)) (evd_eq (ev_and (ev_isi (ev_var rfl) (kit_int d)) fun _ => ev_not (ev_isi (ev_var rfl) (kit_bool d))) (by rw [whole_eq])) rfl
/-- is_whole(e) -/
theorem ev_whole {d : PyData} (h : EvD K ta Γ d) : EvD K (tCall (spOf K (S_is_whole c)) [] E (tCons ta tNil)) Γ (.bool (whole d)) := ev_call (ea_cons h ea_nil) ⟨d, rfl, rfl⟩

/-! ### is_row -/
def coinOk : PyData → Bool
  | .int i => decide (0 ≤ i) && decide (i ≤ 1000000)
  | _ => false
def isRow (d : PyData) (m : Nat) : Bool := match d with
  | .list xs => decide (xs.length = m) && xs.all coinOk
  | _ => false
def S_is_row (c : CA) (ds : List PyData) (r : Res) : Prop := ∃ (d : PyData) (m : Nat), ds = [d, .int (m : Int)] ∧ m ≤ 8 ∧ pd d = true ∧ r = .ok (.bool (isRow d m))
abbrev t_is_row (K : PySem.W.Frag) (c : CA) (E : XK) : TS :=
  (tSeq (tIfS (tOr (tNot (tB (tCB (rIsi K) (tCons (tVar 0) (tCons (tC (.ty "list")) tNil))))) (tTest (tOp (rNe2 K) (tCB (rLenV K) (tCons (tVar 0) tNil)) (tVar 1)))) (tRet (tC (.bl false))) tNext)
    (tRet (tCB (rAll K) (tCons (tLc (iList K (tVar 0)) (gName 2) tYes (tAndV (tCall (spOf K (S_is_whole c)) [] E0 (tCons (tVar 2) tNil)) (tChain rLeI rLeI (tC (.int 0)) (tVar 2) (tC (.int 1000000)))) [2]) tNil))))
abbrev N_is_row : List Str := ["row", "many", "coins"]
theorem ev_coin {x : PyData} {lo hi : TE} (h : EvD K ta Γ x) (h2 : EvD K ta Γ x) : EvD K (tAndV (tCall (spOf K (S_is_whole c)) [] E (tCons ta tNil)) (tChain rLeI rLeI (tC (.int 0)) ta (tC (.int 1000000)))) Γ (.bool (coinOk x)) := by
  by_cases w : whole x = true
  · obtain ⟨i, rfl⟩ := of_whole w
    exact evd_eq (ev_and (ev_whole h) fun _ => ev_leLe ev_int h ev_int) (by simp [whole, coinOk])
  · have w' : whole x = false := by simpa using w
    refine evd_eq (ev_and (b := false) (ev_whole h) fun e => ?_) ?_
    · rw [w'] at e; cases e
    · rw [w']; cases x <;> first | rfl | (exact absurd rfl w)
theorem ht_is_row (h : S_is_row c ds r) : HT K E (t_is_row K c E) (env0 N_is_row ds) (Post r) := by
  obtain ⟨d, m, rfl, hm, hp, rfl⟩ := h
  show HT K E _ [.da d, .da (.int (m : Int)), .no] _
  by_cases hl : isList d = true
  · obtain ⟨xs, rfl⟩ := of_list hl hp
    refine ht_seq (ht_if (et_or (et_not (et_B (ev_isi (ev_var rfl) (kit_list _)))) fun _ => et_test (ev_neI (ev_lenL (ev_var rfl)) (ev_var rfl))) (fun h => ?_) (fun h => ?_))
    · refine ht_ret ev_bl ?_
      have e : xs.length ≠ m := fun e => by simp [isList, e] at h
      show PyData.bool false = .bool (isRow (.list xs) m)
      simp [isRow, e]
    · have e : xs.length = m := by
        simp [isList] at h
        omega
      refine ht_next ?_
      refine ht_ret (d := .bool ((xs.map coinOk).all id)) (ev_all (ta := _) ?_) ?_
      · have q := eo_mapL (K := K) (Γ := [.da (.list xs), .da (.int (m : Int)), .no]) (j := 2) (tl := tVar 0) (te := (tAndV (tCall (spOf K (S_is_whole c)) [] E0 (tCons (tVar 2) tNil)) (tChain rLeI rLeI (tC (.int 0)) (tVar 2) (tC (.int 1000000))))) xs id (fun x => .bool (coinOk x)) (by rw [List.map_id]; exact ev_var rfl) (by omega)
          (fun x _ => ev_coin (lo := tVar 0) (hi := tVar 0) (ev_var rfl) (ev_var rfl))
        refine evd_eq q.toD ?_
        rw [List.map_map]; rfl
      · show PyData.bool _ = .bool _
        simp [isRow, e, List.all_map]
  · have hl' : isList d = false := by simpa using hl
    refine ht_seq (ht_if (b := true) (evt_eq (et_or (b := false) (et_not (et_B (ev_isi (ev_var rfl) (kit_list _)))) fun e => ?_) (by rw [hl']; rfl)) (fun _ => ?_) (fun z => nomatch z))
    · rw [hl'] at e; cases e
    · refine ht_ret ev_bl ?_
      show PyData.bool false = .bool (isRow d m)
      cases d with
      | list xs => cases hl'
      | _ => rfl

/-! ### need_table -/
def isTab (d : PyData) : Bool := match d with
  | .list xs => decide (1 ≤ xs.length) && decide (xs.length ≤ 8) && xs.all (isRow · xs.length)
  | _ => false
/-- what may be handed in as a table -/
def okT (d : PyData) : Prop := pd d = true ∧ ∀ xs, d = .list xs → ∀ x ∈ xs, pd x = true
def needTable (c : CA) (d : PyData) : Res := if isTab d = true then .ok .none else .er c.bt
def S_need_table (c : CA) (ds : List PyData) (r : Res) : Prop := ∃ d, ds = [d] ∧ okT d ∧ r = needTable c d
abbrev t_need_table (K : PySem.W.Frag) (c : CA) (E : XK) : TS :=
  (tSeq (tIfS (tOr (tNot (tB (tCB (rIsi K) (tCons (tVar 0) (tCons (tC (.ty "list")) tNil))))) (tNot (tTest (tChain rLeI rLeI (tC (.int 1)) (tCB (rLenV K) (tCons (tVar 0) tNil)) (tC (.int 8)))))) (tRaiseC c.bt E) tNext)
    (tFor (iList K (tVar 0)) (gName 1) (tIfS (tNot (tB (tCall (spOf K (S_is_row c)) [] E (tCons (tVar 1) (tCons (tCB (rLenV K) (tCons (tVar 0) tNil)) tNil))))) (tRaiseC c.bt E) tNext)))
abbrev N_need_table : List Str := ["wishes", "row"]
theorem ht_need_table (h : S_need_table c ds r) : HT K E (t_need_table K c E) (env0 N_need_table ds) (Post r) := by
  obtain ⟨d, rfl, ⟨hp, hq⟩, rfl⟩ := h
  show HT K E _ [.da d, .no] _
  have bad : isTab d = false → Post (needTable c d) (.ex c.bt) := fun h => by
    unfold needTable; rw [h]; rfl
  by_cases hl : isList d = true
  · obtain ⟨xs, rfl⟩ := of_list hl hp
    have hx := hq xs rfl
    refine ht_seq (ht_if (et_or (et_not (et_B (ev_isi (ev_var rfl) (kit_list _)))) fun _ => et_not (et_test (ev_leLe ev_int (ev_lenL (ev_var rfl)) ev_int))) (fun h => ?_) (fun h => ?_))
    · refine ht_raise (bad ?_)
      simp [isList] at h
      by_cases y : 1 ≤ xs.length
      · have : ¬ xs.length ≤ 8 := by omega
        simp [isTab, this]
      · simp [isTab, y]
    · simp [isList] at h
      obtain ⟨h1, h2⟩ := h
      have h1 : 1 ≤ xs.length := by omega
      have h2 : xs.length ≤ 8 := by omega
      refine ht_next ?_
      refine ht_forN xs id (fun i Γ' => (∃ s, Γ' = [.da (.list xs), s]) ∧ (xs.take i).all (isRow · xs.length) = true) (by rw [List.map_id]; exact ev_var rfl) ⟨⟨_, rfl⟩, rfl⟩ ?_ ?_
      · rintro i x Γ' hi ⟨⟨s, rfl⟩, ha⟩
        have hm : x ∈ xs := List.mem_of_getElem? hi
        refine ht_if (et_not (et_B (ev_call (ea_cons (ev_var rfl) (ea_cons (ev_lenL (ev_var rfl)) ea_nil)) ⟨x, xs.length, rfl, h2, hx x hm, rfl⟩))) (fun h => ?_) (fun h => ?_)
        · refine ht_raise (bad ?_)
          have hr : isRow x xs.length = false := by simpa using h
          have : xs.all (isRow · xs.length) = false := by
            rw [List.all_eq_false]
            exact ⟨x, hm, by rw [hr]; exact Bool.false_ne_true⟩
          simp [isTab, this]
        · refine ht_next ⟨⟨_, rfl⟩, ?_⟩
          have hr : isRow x xs.length = true := by simpa using h
          rw [take_more hi, List.all_append, ha]
          simp [hr]
      · rintro Γ' ⟨_, ha⟩
        rw [List.take_length] at ha
        show Post (needTable c (.list xs)) (.nx Γ')
        have e : isTab (.list xs) = true := by simp [isTab, h1, h2, ha]
        unfold needTable
        rw [if_pos e]
        rfl
  · have hl' : isList d = false := by simpa using hl
    refine ht_seq (ht_if (b := true) (evt_eq (et_or (b := false) (et_not (et_B (ev_isi (ev_var rfl) (kit_list _)))) fun e => ?_) (by rw [hl']; rfl)) (fun _ => ?_) (fun z => nomatch z))
    · rw [hl'] at e; cases e
    · refine ht_raise (bad ?_)
      cases d with
      | list xs => cases hl'
      | _ => rfl

/-! ### are_places -/
def plOk (m : Nat) (seen : List Int) : List PyData → Bool
  | [] => true
  | .int i :: r => decide (0 ≤ i) && decide (i < (m : Int)) && !decide (i ∈ seen) && plOk m (seen ++ [i]) r
  | _ :: _ => false
def isPlaces (d : PyData) (m : Nat) : Bool := match d with
  | .list xs => plOk m [] xs
  | _ => false
/-- what may be handed in as rooms, a ring -/
def okR (d : PyData) : Prop := pd d = true ∧ ∀ xs, d = .list xs → xs.length ≤ 10000
def S_are_places (c : CA) (ds : List PyData) (r : Res) : Prop := ∃ (d : PyData) (m : Nat), ds = [d, .int (m : Int)] ∧ okR d ∧ r = .ok (.bool (isPlaces d m))
abbrev t_are_places (K : PySem.W.Frag) (c : CA) (E : XK) : TS :=
  (tSeq (tIfS (tNot (tB (tCB (rIsi K) (tCons (tVar 0) (tCons (tC (.ty "list")) tNil))))) (tRet (tC (.bl false))) tNext)
    (tSeq (tAsg tDNewK (gName 2))
    (tSeq (tFor (iList K (tVar 0)) (gName 3) (tSeq (tIfS (tOr (tNot (tB (tCall (spOf K (S_is_whole c)) [] E (tCons (tVar 3) tNil)))) (tOr (tNot (tTest (tChain rLeI rLtI (tC (.int 0)) (tVar 3) (tVar 1)))) (tB (tDIn (tVar 3) (tVar 2))))) (tRet (tC (.bl false))) tNext)
    (sDPut (tVar 2) (tVar 3) (tC (.bl true)))))
    (tRet (tC (.bl true))))))
abbrev N_are_places : List Str := ["things", "many", "seen", "thing"]
theorem ht_are_places (h : S_are_places c ds r) : HT K E (t_are_places K c E) (env0 N_are_places ds) (Post r) := by
  obtain ⟨d, m, rfl, ⟨hp, hz⟩, rfl⟩ := h
  show HT K E _ [.da d, .da (.int (m : Int)), .no, .no] _
  by_cases hl : isList d = true
  · obtain ⟨xs, rfl⟩ := of_list hl hp
    have hz := hz xs rfl
    refine ht_seq (ht_if (et_not (et_B (ev_isi (ev_var rfl) (kit_list _)))) (fun h => by simp [isList] at h) fun _ => ht_next ?_)
    refine ht_seq (ht_asgK ?_)
    refine ht_seq (ht_forN xs id (fun i Γ' => ∃ ks s, Γ' = [.da (.list xs), .da (.int (m : Int)), .od ks, s] ∧ ks.length = i ∧ plOk m [] xs = plOk m ks (xs.drop i)) (by rw [List.map_id]; exact ev_var rfl) ⟨[], _, rfl, rfl, rfl⟩ ?_ ?_)
    · rintro i x Γ' hi ⟨ks, s, rfl, hk, he⟩
      obtain ⟨hil, hix⟩ := List.getElem?_eq_some_iff.mp hi
      have hd : xs.drop i = x :: xs.drop (i + 1) := by rw [List.drop_eq_getElem_cons hil, hix]
      rw [hd] at he
      show HT K E _ [.da (.list xs), .da (.int (m : Int)), .od ks, .da x] _
      by_cases w : whole x = true
      · obtain ⟨j, rfl⟩ := of_whole w
        have he' : plOk m [] xs = (decide (0 ≤ j) && decide (j < (m : Int)) && !decide (j ∈ ks) && plOk m (ks ++ [j]) (xs.drop (i + 1))) := he
        refine ht_seq (ht_if (et_or (et_not (et_B (ev_whole (ev_var rfl)))) fun _ => et_or (et_not (et_test (ev_leLt ev_int (ev_var rfl) (ev_var rfl)))) fun _ => et_B (ev_din rfl (ev_var rfl))) (fun h => ?_) (fun h => ?_))
        · refine ht_ret ev_bl ?_
          show PyData.bool false = .bool (plOk m [] xs)
          rw [he']
          simp [whole] at h
          by_cases y1 : 0 ≤ j
          · by_cases y2 : j < (m : Int)
            · have y3 : j ∈ ks := by
                rcases h with h | h
                · omega
                · exact h
              simp [y3]
            · simp [y2]
          · simp [y1]
        · simp [whole] at h
          obtain ⟨⟨h1, h2⟩, h3⟩ := h
          refine ht_next (ht_put rfl ev_bl (ev_var rfl) h3 (by omega) ⟨ks ++ [j], _, rfl, by simp [hk], ?_⟩)
          rw [he']
          simp [h1, h2, h3]
      · have w' : whole x = false := by simpa using w
        refine ht_seq (ht_if (b := true) (evt_eq (et_or (b := false) (et_not (et_B (ev_whole (ev_var rfl)))) fun e => ?_) (by rw [w']; rfl)) (fun _ => ?_) (fun z => nomatch z))
        · rw [w'] at e; cases e
        · refine ht_ret ev_bl ?_
          show PyData.bool false = .bool (plOk m [] xs)
          rw [he]
          cases x with
          | int j => cases w'
          | _ => rfl
    · rintro Γ' ⟨ks, s, rfl, hk, he⟩
      refine ht_ret ev_bl ?_
      show PyData.bool true = .bool (plOk m [] xs)
      rw [he, List.drop_length]
      rfl
  · have hl' : isList d = false := by simpa using hl
    refine ht_seq (ht_if (b := true) (evt_eq (et_not (et_B (ev_isi (ev_var rfl) (kit_list _)))) (by rw [hl']; rfl)) (fun _ => ?_) (fun z => nomatch z))
    refine ht_ret ev_bl ?_
    show PyData.bool false = .bool (isPlaces d m)
    cases d with
    | list xs => cases hl'
    | _ => rfl

/-! ### need_place -/
def placeOk (d : PyData) (m : Nat) : Bool := match d with
  | .int i => decide (0 ≤ i) && decide (i < (m : Int))
  | _ => false
def S_need_place (c : CA) (ds : List PyData) (r : Res) : Prop := ∃ (d : PyData) (m : Nat), ds = [d, .int (m : Int)] ∧ r = if placeOk d m = true then .ok .none else .er c.br
abbrev t_need_place (K : PySem.W.Frag) (c : CA) (E : XK) : TS :=
  (tIfS (tOr (tNot (tB (tCall (spOf K (S_is_whole c)) [] E (tCons (tVar 0) tNil)))) (tNot (tTest (tChain rLeI rLtI (tC (.int 0)) (tVar 0) (tVar 1))))) (tRaiseC c.br E) tNext)
abbrev N_need_place : List Str := ["thing", "many"]
theorem ht_need_place (h : S_need_place c ds r) : HT K E (t_need_place K c E) (env0 N_need_place ds) (Post r) := by
  obtain ⟨d, m, rfl, rfl⟩ := h
  show HT K E _ [.da d, .da (.int (m : Int))] _
  by_cases w : whole d = true
  · obtain ⟨j, rfl⟩ := of_whole w
    refine ht_if (et_or (et_not (et_B (ev_whole (ev_var rfl)))) fun _ => et_not (et_test (ev_leLt ev_int (ev_var rfl) (ev_var rfl)))) (fun h => ?_) (fun h => ?_)
    · have e : placeOk (.int j) m = false := by
        simp [whole] at h
        show (decide (0 ≤ j) && decide (j < (m : Int))) = false
        by_cases y : 0 ≤ j
        · simp; omega
        · simp [y]
      refine ht_raise ?_
      rw [e]; rfl
    · have e : placeOk (.int j) m = true := by
        simp [whole] at h
        show (decide (0 ≤ j) && decide (j < (m : Int))) = true
        simp [h]
      refine ht_next ?_
      rw [if_pos e]; rfl
  · have w' : whole d = false := by simpa using w
    refine ht_if (b := true) (evt_eq (et_or (b := false) (et_not (et_B (ev_whole (ev_var rfl)))) fun e => ?_) (by rw [w']; rfl)) (fun _ => ?_) (fun z => nomatch z)
    · rw [w'] at e; cases e
    · have e : placeOk d m = false := by
        cases d with
        | int j => cases w'
        | _ => rfl
      refine ht_raise ?_
      rw [e]; rfl

/-! ### need_rooms -/
def lenD : PyData → Nat
  | .list xs => xs.length
  | _ => 0
def roomsOk (w d : PyData) : Bool := isPlaces d (lenD w) && decide (lenD d = lenD w)
def needRooms (c : CA) (w d : PyData) : Res := if isTab w = true then (if roomsOk w d = true then .ok .none else .er c.br) else .er c.bt
def S_need_rooms (c : CA) (ds : List PyData) (r : Res) : Prop := ∃ w d, ds = [w, d] ∧ okT w ∧ okR d ∧ r = needRooms c w d
abbrev t_need_rooms (K : PySem.W.Frag) (c : CA) (E : XK) : TS :=
  (tSeq (tDrop (tCall (spOf K (S_need_table c)) [] E (tCons (tVar 0) tNil)))
    (tIfS (tOr (tNot (tB (tCall (spOf K (S_are_places c)) [] E (tCons (tVar 1) (tCons (tCB (rLenV K) (tCons (tVar 0) tNil)) tNil))))) (tTest (tOp (rNe2 K) (tCB (rLenV K) (tCons (tVar 1) tNil)) (tCB (rLenV K) (tCons (tVar 0) tNil))))) (tRaiseC c.br E) tNext))
abbrev N_need_rooms : List Str := ["wishes", "rooms"]
theorem ht_need_rooms (h : S_need_rooms c ds r) : HT K E (t_need_rooms K c E) (env0 N_need_rooms ds) (Post r) := by
  obtain ⟨w, d, rfl, hw, hd, rfl⟩ := h
  show HT K E _ [.da w, .da d] _
  by_cases ht : isTab w = true
  · have e1 : needTable c w = .ok .none := by unfold needTable; rw [if_pos ht]
    have e2 : needRooms c w d = if roomsOk w d = true then .ok .none else .er c.br := by unfold needRooms; rw [if_pos ht]
    obtain ⟨xs, rfl⟩ : ∃ xs, w = .list xs := by
      cases w with
      | list xs => exact ⟨xs, rfl⟩
      | _ => cases ht
    refine ht_seq (ht_drop (ev_call (ea_cons (ev_var rfl) ea_nil) ⟨_, rfl, hw, e1.symm⟩) ?_)
    have ep : EvD K (tCall (spOf K (S_are_places c)) [] E (tCons (tVar 1) (tCons (tCB (rLenV K) (tCons (tVar 0) tNil)) tNil))) [.da (.list xs), .da d] (.bool (isPlaces d xs.length)) :=
      ev_call (ea_cons (ev_var rfl) (ea_cons (ev_lenL (ev_var rfl)) ea_nil)) ⟨d, xs.length, rfl, hd, rfl⟩
    by_cases hi : isPlaces d xs.length = true
    · obtain ⟨ys, rfl⟩ : ∃ ys, d = .list ys := by
        cases d with
        | list xs => exact ⟨xs, rfl⟩
        | _ => cases hi
      refine ht_if (et_or (et_not (et_B ep)) fun _ => et_test (ev_neI (ev_lenL (ev_var rfl)) (ev_lenL (ev_var rfl)))) (fun h => ?_) (fun h => ?_)
      · refine ht_raise ?_
        have : roomsOk (.list xs) (.list ys) = false := by
          simp [hi] at h
          have h' : ys.length ≠ xs.length := by omega
          simp [roomsOk, lenD, hi, h']
        rw [e2, this]; rfl
      · refine ht_next ?_
        have : roomsOk (.list xs) (.list ys) = true := by
          simp [hi] at h
          have h' : ys.length = xs.length := by omega
          simp [roomsOk, lenD, hi, h'] at hi ⊢
          try exact hi
        rw [e2, if_pos this]; rfl
    · have hi' : isPlaces d xs.length = false := by simpa using hi
      refine ht_if (b := true) (evt_eq (et_or (b := false) (et_not (et_B ep)) fun e => ?_) (by rw [hi']; rfl)) (fun _ => ?_) (fun z => nomatch z)
      · rw [hi'] at e; cases e
      · refine ht_raise ?_
        have : roomsOk (.list xs) d = false := by simp [roomsOk, lenD, hi']
        rw [e2, this]; rfl
  · have ht' : isTab w = false := by simpa using ht
    have e1 : needTable c w = .er c.bt := by unfold needTable; rw [ht']; rfl
    have e2 : needRooms c w d = .er c.bt := by unfold needRooms; rw [ht']; rfl
    rw [e2]
    exact ht_seq (ht_dropX (ex_call (ea_cons (ev_var rfl) ea_nil) ⟨_, rfl, hw, e1.symm⟩) rfl)

/-! ### good tables, good rooms -/
structure Tab (W : List (List Int)) (n : Nat) : Prop where
  len : W.length = n
  lo : 1 ≤ n
  hi : n ≤ 8
  row : ∀ r ∈ W, r.length = n
  coin : ∀ r ∈ W, ∀ x ∈ r, 0 ≤ x ∧ x ≤ 1000000
structure Rms (R : List Nat) (n : Nat) : Prop where
  len : R.length = n
  lt : ∀ r ∈ R, r < n
  nd : R.Nodup
theorem isRow_li {ns : List Int} {n : Nat} (hl : ns.length = n) (h : ∀ x ∈ ns, 0 ≤ x ∧ x ≤ 1000000) : isRow (li ns) n = true := by
  show (decide ((ns.map PyData.int).length = n) && (ns.map PyData.int).all coinOk) = true
  rw [List.length_map, decide_eq_true hl, Bool.true_and, List.all_eq_true]
  intro d hd
  obtain ⟨x, hx, rfl⟩ := List.mem_map.mp hd
  show (decide (0 ≤ x) && decide (x ≤ 1000000)) = true
  simp [h x hx]
theorem Tab.is {W : List (List Int)} {n : Nat} (t : Tab W n) : isTab (PD.tb W) = true := by
  show (decide (1 ≤ (W.map li).length) && decide ((W.map li).length ≤ 8) && (W.map li).all (isRow · (W.map li).length)) = true
  rw [List.length_map, t.len, decide_eq_true t.lo, decide_eq_true t.hi, Bool.true_and, Bool.true_and, List.all_eq_true]
  intro d hd
  obtain ⟨x, hx, rfl⟩ := List.mem_map.mp hd
  exact isRow_li (t.row x hx) (t.coin x hx)
theorem okT_tb (W : List (List Int)) : okT (PD.tb W) := ⟨rfl, fun xs e x hx => by
  cases e
  obtain ⟨y, _, rfl⟩ := List.mem_map.mp hx
  rfl⟩
theorem Tab.need {W : List (List Int)} {n : Nat} (t : Tab W n) : S_need_table c [PD.tb W] (.ok .none) := ⟨_, rfl, okT_tb W, by unfold needTable; rw [if_pos t.is]⟩
theorem plOk_ln {m : Nat} : ∀ {R : List Nat} {seen : List Int}, (∀ r ∈ R, r < m) → R.Nodup → (∀ r ∈ R, ((r : Nat) : Int) ∉ seen) → plOk m seen (R.map fun r : Nat => .int (r : Int)) = true
  | [], _, _, _, _ => rfl
  | r :: R, seen, h1, h2, h3 => by
    rw [List.nodup_cons] at h2
    have a1 : r < m := h1 r List.mem_cons_self
    have a3 := h3 r List.mem_cons_self
    have ih := plOk_ln (m := m) (R := R) (seen := seen ++ [(r : Int)]) (fun x hx => h1 x (List.mem_cons_of_mem _ hx)) h2.2 (fun x hx hm => by
      rcases List.mem_append.mp hm with hm | hm
      · exact h3 x (List.mem_cons_of_mem _ hx) hm
      · have e : (x : Int) = (r : Int) := by simpa using hm
        have e' : x = r := by omega
        exact h2.1 (e' ▸ hx))
    show (decide (0 ≤ ((r : Nat) : Int)) && decide (((r : Nat) : Int) < (m : Int)) && !decide (((r : Nat) : Int) ∈ seen) && plOk m (seen ++ [((r : Nat) : Int)]) (R.map fun r : Nat => .int (r : Int))) = true
    rw [ih]
    have q1 : (0 : Int) ≤ (r : Int) := by omega
    have q2 : (r : Int) < (m : Int) := by omega
    simp [q1, q2, a3]
theorem okR_ln {R : List Nat} (h : R.length ≤ 10000) : okR (ln R) := ⟨rfl, fun xs e => by cases e; rw [List.length_map]; exact h⟩
theorem places_ln {R : List Nat} {m : Nat} (h1 : ∀ r ∈ R, r < m) (h2 : R.Nodup) : isPlaces (ln R) m = true := plOk_ln h1 h2 (fun _ _ h => nomatch h)
theorem Rms.ok {W : List (List Int)} {R : List Nat} {n : Nat} (t : Tab W n) (q : Rms R n) : roomsOk (PD.tb W) (ln R) = true := by
  unfold roomsOk
  have e1 : lenD (PD.tb W) = n := by show (W.map li).length = n; rw [List.length_map, t.len]
  have e2 : lenD (ln R) = n := by show (R.map _).length = n; rw [List.length_map, q.len]
  rw [e1, e2, places_ln q.lt q.nd]
  simp
theorem Rms.need {W : List (List Int)} {R : List Nat} {n : Nat} (t : Tab W n) (q : Rms R n) : S_need_rooms c [PD.tb W, ln R] (.ok .none) :=
  ⟨_, _, rfl, okT_tb W, okR_ln (by have := t.hi; rw [q.len]; omega), by unfold needRooms; rw [if_pos t.is, if_pos (q.ok t)]⟩
/-- one cell -/
def cell (W : List (List Int)) (i k : Nat) : Int := (W.getD i []).getD k 0
def gn (W : List (List Int)) (R : List Nat) (i j : Nat) : Int := cell W i (R.getD j 0) - cell W i (R.getD i 0)
theorem ev_row {W : List (List Int)} {i : Nat} (ha : EvD K ta Γ (PD.tb W)) (hb : EvD K tb Γ (.int (i : Int))) (h : i < W.length) : EvD K (tOp (rIx K) ta tb) Γ (li (W.getD i [])) :=
  ev_ixL ha hb (atI_map (f := li) (by omega) (by omega) [])
theorem ev_at {ns : List Int} {i : Nat} (ha : EvD K ta Γ (li ns)) (hb : EvD K tb Γ (.int (i : Int))) (h : i < ns.length) : EvD K (tOp (rIx K) ta tb) Γ (.int (ns.getD i 0)) :=
  ev_ixL ha hb (atI_map (f := PyData.int) (by omega) (by omega) 0)
theorem ev_room {R : List Nat} {i : Nat} (ha : EvD K ta Γ (ln R)) (hb : EvD K tb Γ (.int (i : Int))) (h : i < R.length) : EvD K (tOp (rIx K) ta tb) Γ (.int ((R.getD i 0 : Nat) : Int)) :=
  ev_ixL ha hb (atI_map (f := fun r : Nat => PyData.int (r : Int)) (by omega) (by omega) 0)
theorem getD_mem {α : Type} {l : List α} {i : Nat} {d : α} (h : i < l.length) : l.getD i d ∈ l := by
  rw [List.getD_eq_getElem?_getD, List.getElem?_eq_getElem h]; exact List.getElem_mem h
theorem Rms.at_lt {R : List Nat} {n i : Nat} (q : Rms R n) (h : i < n) : R.getD i 0 < n := q.lt _ (getD_mem (by rw [q.len]; exact h))
theorem Tab.row_len {W : List (List Int)} {n i : Nat} (t : Tab W n) (h : i < n) : (W.getD i []).length = n := t.row _ (getD_mem (by rw [t.len]; exact h))
theorem ev_cell {W : List (List Int)} {n i k : Nat} (t : Tab W n) {tw ti tk : TE} (hw : EvD K tw Γ (PD.tb W)) (hi : EvD K ti Γ (.int (i : Int))) (hk : EvD K tk Γ (.int (k : Int))) (h1 : i < n) (h2 : k < n) :
    EvD K (tOp (rIx K) (tOp (rIx K) tw ti) tk) Γ (.int (cell W i k)) := ev_at (ev_row hw hi (by rw [t.len]; exact h1)) hk (by rw [t.row_len h1]; exact h2)
theorem ev_roomOf {R : List Nat} {n i : Nat} (q : Rms R n) (ha : EvD K ta Γ (ln R)) (hb : EvD K tb Γ (.int (i : Int))) (h : i < n) : EvD K (tOp (rIx K) ta tb) Γ (.int ((R.getD i 0 : Nat) : Int)) := ev_room ha hb (by rw [q.len]; exact h)

/-! ### step, gain, total -/
def S_step (c : CA) (ds : List PyData) (r : Res) : Prop := ∃ (W : List (List Int)) (R : List Nat) (n i j : Nat), Tab W n ∧ Rms R n ∧ i < n ∧ j < n ∧ ds = [PD.tb W, ln R, .int (i : Int), .int (j : Int)] ∧ r = .ok (.int (gn W R i j))
abbrev t_step (K : PySem.W.Frag) (c : CA) (E : XK) : TS :=
  (tRet (tOp rSubI (tOp (rIx K) (tOp (rIx K) (tVar 0) (tVar 2)) (tOp (rIx K) (tVar 1) (tVar 3))) (tOp (rIx K) (tOp (rIx K) (tVar 0) (tVar 2)) (tOp (rIx K) (tVar 1) (tVar 2)))))
abbrev N_step : List Str := ["wishes", "rooms", "one", "other"]
theorem ht_step (h : S_step c ds r) : HT K E (t_step K c E) (env0 N_step ds) (Post r) := by
  obtain ⟨W, R, n, i, j, t, q, hi, hj, rfl, rfl⟩ := h
  show HT K E _ [.da (PD.tb W), .da (ln R), .da (.int (i : Int)), .da (.int (j : Int))] _
  exact ht_ret (ev_sub (ev_cell t (ev_var rfl) (ev_var rfl) (ev_roomOf q (ev_var rfl) (ev_var rfl) hj) hi (q.at_lt hj)) (ev_cell t (ev_var rfl) (ev_var rfl) (ev_roomOf q (ev_var rfl) (ev_var rfl) hi) hi (q.at_lt hi))) rfl
/-- what is refused ahead of all else -/
def S_ahead (c : CA) (ds : List PyData) (r : Res) : Prop := ∃ (w d : PyData) (rest : List PyData) (C : Addr), ds = w :: d :: rest ∧ okT w ∧ okR d ∧ needRooms c w d = .er C ∧ r = .er C
def S_gain (c : CA) (ds : List PyData) (r : Res) : Prop :=
  (∃ (W : List (List Int)) (R : List Nat) (n i j : Nat), Tab W n ∧ Rms R n ∧ i < n ∧ j < n ∧ ds = [PD.tb W, ln R, .int (i : Int), .int (j : Int)] ∧ r = .ok (.int (gn W R i j))) ∨
  (ds.length = 4 ∧ S_ahead c ds r) ∨
  (∃ (W : List (List Int)) (R : List Nat) (n : Nat) (a b : PyData), Tab W n ∧ Rms R n ∧ (placeOk a n = true → placeOk b n = false) ∧ ds = [PD.tb W, ln R, a, b] ∧ r = .er c.br)
abbrev t_gain (K : PySem.W.Frag) (c : CA) (E : XK) : TS :=
  (tSeq (tDrop (tCall (spOf K (S_need_rooms c)) [] E (tCons (tVar 0) (tCons (tVar 1) tNil))))
    (tSeq (tDrop (tCall (spOf K (S_need_place c)) [] E (tCons (tVar 2) (tCons (tCB (rLenV K) (tCons (tVar 1) tNil)) tNil))))
    (tSeq (tDrop (tCall (spOf K (S_need_place c)) [] E (tCons (tVar 3) (tCons (tCB (rLenV K) (tCons (tVar 1) tNil)) tNil))))
    (tRet (tCall (spOf K (S_step c)) [] E (tCons (tVar 0) (tCons (tVar 1) (tCons (tVar 2) (tCons (tVar 3) tNil)))))))))
abbrev N_gain : List Str := ["wishes", "rooms", "one", "other"]
theorem ht_gain (h : S_gain c ds r) : HT K E (t_gain K c E) (env0 N_gain ds) (Post r) := by
  rcases h with ⟨W, R, n, i, j, t, q, hi, hj, rfl, rfl⟩ | ⟨hl, w, d, rest, C, rfl, hw, hd, he, rfl⟩ | ⟨W, R, n, a, b, t, q, hab, rfl, rfl⟩
  · show HT K E _ [.da (PD.tb W), .da (ln R), .da (.int (i : Int)), .da (.int (j : Int))] _
    have el : (R.map fun r : Nat => PyData.int (r : Int)).length = n := by rw [List.length_map, q.len]
    refine ht_seq (ht_drop (ev_call (ea_cons (ev_var rfl) (ea_cons (ev_var rfl) ea_nil)) (q.need t)) ?_)
    have pl : ∀ k : Nat, k < n → placeOk (.int (k : Int)) n = true := fun k hk => by
      show (decide (0 ≤ (k : Int)) && decide ((k : Int) < (n : Int))) = true
      have : (0 : Int) ≤ (k : Int) := by omega
      have : (k : Int) < (n : Int) := by omega
      simp [*]
    refine ht_seq (ht_drop (ev_call (ea_cons (ev_var rfl) (ea_cons (ev_lenL (ev_var rfl)) ea_nil)) ⟨_, n, by rw [el], by rw [if_pos (pl i hi)]⟩) ?_)
    refine ht_seq (ht_drop (ev_call (ea_cons (ev_var rfl) (ea_cons (ev_lenL (ev_var rfl)) ea_nil)) ⟨_, n, by rw [el], by rw [if_pos (pl j hj)]⟩) ?_)
    exact ht_ret (ev_call (ea_cons (ev_var rfl) (ea_cons (ev_var rfl) (ea_cons (ev_var rfl) (ea_cons (ev_var rfl) ea_nil)))) ⟨W, R, n, i, j, t, q, hi, hj, rfl, rfl⟩) rfl
  · obtain ⟨a, b, rfl⟩ : ∃ a b, rest = [a, b] := by
      match rest, hl with
      | [a, b], _ => exact ⟨a, b, rfl⟩
    show HT K E _ [.da w, .da d, .da a, .da b] _
    exact ht_seq (ht_dropX (ex_call (ea_cons (ev_var rfl) (ea_cons (ev_var rfl) ea_nil)) ⟨w, d, rfl, hw, hd, he.symm⟩) rfl)
  · show HT K E _ [.da (PD.tb W), .da (ln R), .da a, .da b] _
    have el : (R.map fun r : Nat => PyData.int (r : Int)).length = n := by rw [List.length_map, q.len]
    refine ht_seq (ht_drop (ev_call (ea_cons (ev_var rfl) (ea_cons (ev_var rfl) ea_nil)) (q.need t)) ?_)
    by_cases pa : placeOk a n = true
    · refine ht_seq (ht_drop (ev_call (ea_cons (ev_var rfl) (ea_cons (ev_lenL (ev_var rfl)) ea_nil)) ⟨_, n, by rw [el], by rw [if_pos pa]⟩) ?_)
      exact ht_seq (ht_dropX (ex_call (ea_cons (ev_var rfl) (ea_cons (ev_lenL (ev_var rfl)) ea_nil)) ⟨_, n, by rw [el], by rw [hab pa]; rfl⟩) rfl)
    · exact ht_seq (ht_dropX (ex_call (ea_cons (ev_var rfl) (ea_cons (ev_lenL (ev_var rfl)) ea_nil)) ⟨_, n, by rw [el], by rw [if_neg pa]⟩) rfl)
/-- what all would give -/
def tot (W : List (List Int)) (R : List Nat) : Int := ((List.range R.length).map fun i => cell W i (R.getD i 0)).sum
def S_total (c : CA) (ds : List PyData) (r : Res) : Prop :=
  (∃ (W : List (List Int)) (R : List Nat) (n : Nat), Tab W n ∧ Rms R n ∧ ds = [PD.tb W, ln R] ∧ r = .ok (.int (tot W R))) ∨ (ds.length = 2 ∧ S_ahead c ds r)
abbrev t_total (K : PySem.W.Frag) (c : CA) (E : XK) : TS :=
  (tSeq (tDrop (tCall (spOf K (S_need_rooms c)) [] E (tCons (tVar 0) (tCons (tVar 1) tNil))))
    (tRet (tCB (rSum K) (tCons (tLc (iRng1 (tCons (tCB (rLenV K) (tCons (tVar 1) tNil)) tNil)) (gName 2) tYes (tOp (rIx K) (tOp (rIx K) (tVar 0) (tVar 2)) (tOp (rIx K) (tVar 1) (tVar 2))) [2]) tNil))))
abbrev N_total : List Str := ["wishes", "rooms", "one"]
theorem ht_total (h : S_total c ds r) : HT K E (t_total K c E) (env0 N_total ds) (Post r) := by
  rcases h with ⟨W, R, n, t, q, rfl, rfl⟩ | ⟨hl, w, d, rest, C, rfl, hw, hd, he, rfl⟩
  · show HT K E _ [.da (PD.tb W), .da (ln R), .no] _
    have hn := t.hi
    refine ht_seq (ht_drop (ev_call (ea_cons (ev_var rfl) (ea_cons (ev_var rfl) ea_nil)) (q.need t)) ?_)
    refine ht_ret (ev_sum (ns := (List.range R.length).map fun i => cell W i (R.getD i 0)) ?_) rfl
    have el : (R.map fun r : Nat => PyData.int (r : Int)).length = R.length := List.length_map ..
    have m := eo_mapR (K := K) (Γ := [.da (PD.tb W), .da (ln R), .no]) (j := 2) (ta := tCons (tCB (rLenV K) (tCons (tVar 1) tNil)) tNil) (te := tOp (rIx K) (tOp (rIx K) (tVar 0) (tVar 2)) (tOp (rIx K) (tVar 1) (tVar 2))) (n := (R.length : Int)) (fun i => .int (cell W i (R.getD i 0)))
      (ea_cons (evd_eq (ev_lenL (ev_var rfl)) (by rw [el])) ea_nil) (by rw [q.len]; omega) (fun i hi => by
        have hi' : i < n := by rw [← q.len]; omega
        exact ev_cell t (ev_var rfl) (ev_var rfl) (ev_roomOf q (ev_var rfl) (ev_var rfl) hi') hi' (q.at_lt hi'))
    refine evd_eq m.toD ?_
    rw [List.map_map, Int.toNat_natCast]
    rfl
  · obtain rfl : rest = [] := by
      match rest, hl with
      | [], _ => rfl
    show HT K E _ [.da w, .da d, .no] _
    exact ht_seq (ht_dropX (ex_call (ea_cons (ev_var rfl) (ea_cons (ev_var rfl) ea_nil)) ⟨w, d, rfl, hw, hd, he.symm⟩) rfl)
end
end PD

set_option Elab.async false
set_option linter.all false
set_option maxRecDepth 100000
set_option maxHeartbeats 1000000
/-! What the laws have in common. -/
namespace PD
open PySem L2
/-! ### shapes -/
theorem canLayAll_map {α : Type} {f : α → PyData} : ∀ {xs : List α}, (∀ x ∈ xs, (f x).canLay0 = true) → PyData.canLayAll0 (xs.map f) = true
  | [], _ => by simp [PyData.canLayAll0]
  | x :: xs, h => by
    rw [List.map_cons]
    simp [PyData.canLayAll0, h x List.mem_cons_self, canLayAll_map fun y hy => h y (List.mem_cons_of_mem _ hy)]
theorem depthAll_map {α : Type} {f : α → PyData} {k : Nat} : ∀ {xs : List α}, (∀ x ∈ xs, (f x).depth ≤ k) → PyData.depthAll (xs.map f) ≤ k
  | [], _ => by simp [PyData.depthAll]
  | x :: xs, h => by
    rw [List.map_cons]
    have h1 := h x List.mem_cons_self
    have h2 := depthAll_map (f := f) (k := k) (xs := xs) fun y hy => h y (List.mem_cons_of_mem _ hy)
    simp only [PyData.depthAll]
    omega
/-- a datum that may be compared, of at most that depth -/
def Shp (k : Nat) (d : PyData) : Prop := d.canLay0 = true ∧ d.depth ≤ k
theorem Shp.is {k : Nat} {d : PyData} (h : Shp k d) (hk : k ≤ 64 := by decide) : SeqAt.shaped d = true := by
  unfold SeqAt.shaped
  rw [h.1, Bool.true_and]
  exact decide_eq_true (Nat.le_trans h.2 hk)
theorem shp_int (i : Int) : Shp 0 (.int i) := ⟨by simp [PyData.canLay0], by simp [PyData.depth]⟩
theorem shp_none : Shp 0 .none := ⟨by simp [PyData.canLay0], by simp [PyData.depth]⟩
theorem shp_bool (b : Bool) : Shp 0 (.bool b) := ⟨by simp [PyData.canLay0], by simp [PyData.depth]⟩
theorem shp_list {α : Type} {f : α → PyData} {xs : List α} {k : Nat} (h : ∀ x ∈ xs, Shp k (f x)) : Shp (k + 1) (.list (xs.map f)) :=
  ⟨by simp only [PyData.canLay0]; exact canLayAll_map fun x hx => (h x hx).1, by simp only [PyData.depth]; have := depthAll_map fun x hx => (h x hx).2; omega⟩
theorem shp_listI {xs : List PyData} {k : Nat} (h : ∀ x ∈ xs, Shp k x) : Shp (k + 1) (.list xs) := by
  have := shp_list (f := id) (xs := xs) (k := k) h
  rwa [List.map_id] at this
theorem shp_tup {xs : List PyData} {k : Nat} (h : ∀ x ∈ xs, Shp k x) : Shp (k + 1) (.tuple xs) := by
  have := shp_listI h
  exact ⟨by simpa [PyData.canLay0] using this.1, by simpa [PyData.depth] using this.2⟩
theorem Shp.up {j k : Nat} {d : PyData} (h : Shp j d) (hk : j ≤ k) : Shp k d := ⟨h.1, Nat.le_trans h.2 hk⟩
theorem shp_li (ns : List Int) : Shp 1 (li ns) := shp_list fun x _ => shp_int x
theorem shp_tb (W : List (List Int)) : Shp 2 (tb W) := shp_list fun x _ => shp_li x
theorem shp_ln (R : List Nat) : Shp 1 (ln R) := shp_list fun x _ => shp_int _
theorem eqv_self {k : Nat} {d : PyData} (h : Shp k d) : PyData.eqv d d = true := SeqAt.eqv_refl d h.1
section
variable {K : PySem.W.Frag} {c : CA} {E : XK} {Γ : Env} {ta tb te : TE} {ds : List PyData} {r : Res}
/-- a != b of one and the same -/
theorem ev_neSelf {k : Nat} {d : PyData} (ha : EvD K ta Γ d) (hb : EvD K tb Γ d) (h : Shp k d) (hk : k ≤ 64 := by decide) : EvD K (tOp (rNe2 K) ta tb) Γ (.bool false) :=
  evd_eq (ev_neD ha hb (h.is hk) (h.is hk)) (by rw [eqv_self h]; rfl)
theorem ev_eqSelf {k : Nat} {d : PyData} (ha : EvD K ta Γ d) (hb : EvD K tb Γ d) (h : Shp k d) (hk : k ≤ 64 := by decide) : EvD K (tOp (rEq2 K) ta tb) Γ (.bool true) :=
  evd_eq (ev_eqD ha hb (h.is hk) (h.is hk)) (by rw [eqv_self h])

/-! ### _law_cell_at -/
def ce (ns : List Int) (k : Nat) : Int := ns.getD k 0
def S_law_cell_at (c : CA) (ds : List PyData) (r : Res) : Prop := ∃ (ns : List Int) (k : Nat), ds = [scr ns, .int (k : Int)] ∧ ns.length ≤ 63 ∧ r = .ok (.int (ce ns k))
abbrev t_law_cell_at (K : PySem.W.Frag) (c : CA) (E : XK) : TS :=
  (tSeq (tIfS (tTest (tOp rLtI (tVar 1) (tCB (rLenV K) (tCons (tVar 0) tNil)))) (tRet (tOp (rIx K) (tVar 0) (tVar 1))) tNext)
    (tRet (tC (.int 0))))
abbrev N_law_cell_at : List Str := ["_law_script", "_law_k"]
theorem ht_law_cell_at (h : S_law_cell_at c ds r) : HT K E (t_law_cell_at K c E) (env0 N_law_cell_at ds) (Post r) := by
  obtain ⟨ns, k, rfl, hn, rfl⟩ := h
  show HT K E _ [.da (scr ns), .da (.int (k : Int))] _
  refine ht_seq (ht_if (et_test (ev_lt (ev_var rfl) (ev_lenScr (ev_var rfl)))) (fun h => ?_) (fun h => ?_))
  · have h : k < ns.length := by have := of_decide_eq_true h; omega
    refine ht_ret (ev_ixScr (k := ce ns k) (ev_var rfl) (ev_var rfl) ?_) rfl
    have := atI_map (f := id) (xs := ns) (i := (k : Int)) (by omega) (by omega) 0
    rw [List.map_id] at this
    exact this
  · have h : ¬ k < ns.length := by have := of_decide_eq_false h; omega
    refine ht_next (ht_ret ev_int ?_)
    show PyData.int 0 = .int (ce ns k)
    unfold ce
    rw [List.getD_eq_getElem?_getD, List.getElem?_eq_none (by omega)]
    rfl
theorem ev_ce {ns : List Int} {k : Nat} (h1 : EvD K ta Γ (scr ns)) (h2 : EvD K tb Γ (.int (k : Int))) (hn : ns.length ≤ 63) : EvD K (tCall (spOf K (S_law_cell_at c)) [] E (tCons ta (tCons tb tNil))) Γ (.int (ce ns k)) :=
  ev_call (ea_cons h1 (ea_cons h2 ea_nil)) ⟨ns, k, rfl, hn, rfl⟩

/-! ### _law_coins_by -/
def coinsBy (x m : Int) : Int := if m = 0 then x % 1000001 else if m = 1 then x % 10 else if m = 2 then x % 2 * 1000000 else 999998 + x % 3
theorem coinsBy_ok (x m : Int) : 0 ≤ coinsBy x m ∧ coinsBy x m ≤ 1000000 := by
  unfold coinsBy
  split
  · omega
  · split
    · omega
    · split <;> omega
def S_law_coins_by (c : CA) (ds : List PyData) (r : Res) : Prop := ∃ x m : Int, ds = [.int x, .int m] ∧ r = .ok (.int (coinsBy x m))
abbrev t_law_coins_by (K : PySem.W.Frag) (c : CA) (E : XK) : TS :=
  (tSeq (tIfS (tTest (tOp (rEq2 K) (tVar 1) (tC (.int 0)))) (tRet (tOp rModI (tVar 0) (tC (.int 1000001)))) tNext)
    (tSeq (tIfS (tTest (tOp (rEq2 K) (tVar 1) (tC (.int 1)))) (tRet (tOp rModI (tVar 0) (tC (.int 10)))) tNext)
    (tSeq (tIfS (tTest (tOp (rEq2 K) (tVar 1) (tC (.int 2)))) (tRet (tOp rMul2 (tOp rModI (tVar 0) (tC (.int 2))) (tC (.int 1000000)))) tNext)
    (tRet (tOp rAdd3 (tC (.int 999998)) (tOp rModI (tVar 0) (tC (.int 3))))))))
abbrev N_law_coins_by : List Str := ["_law_cell", "_law_mode"]
theorem ht_law_coins_by (h : S_law_coins_by c ds r) : HT K E (t_law_coins_by K c E) (env0 N_law_coins_by ds) (Post r) := by
  obtain ⟨x, m, rfl, rfl⟩ := h
  show HT K E _ [.da (.int x), .da (.int m)] _
  refine ht_seq (ht_if (et_test (ev_eqI (ev_var rfl) ev_int)) (fun h => ?_) (fun h => ?_))
  · have h := of_decide_eq_true h
    refine ht_ret (ev_mod (ev_var rfl) ev_int (by decide)) ?_
    show PyData.int _ = .int (coinsBy x m)
    rw [coinsBy, if_pos h]
  have h0 := of_decide_eq_false h
  refine ht_next (ht_seq (ht_if (et_test (ev_eqI (ev_var rfl) ev_int)) (fun h => ?_) (fun h => ?_)))
  · have h := of_decide_eq_true h
    refine ht_ret (ev_mod (ev_var rfl) ev_int (by decide)) ?_
    show PyData.int _ = .int (coinsBy x m)
    rw [coinsBy, if_neg h0, if_pos h]
  have h1 := of_decide_eq_false h
  refine ht_next (ht_seq (ht_if (et_test (ev_eqI (ev_var rfl) ev_int)) (fun h => ?_) (fun h => ?_)))
  · have h := of_decide_eq_true h
    refine ht_ret (ev_mul (ev_mod (ev_var rfl) ev_int (by decide)) ev_int (.inr (by decide))) ?_
    show PyData.int _ = .int (coinsBy x m)
    rw [coinsBy, if_neg h0, if_neg h1, if_pos h]
  have h2 := of_decide_eq_false h
  refine ht_next (ht_ret (ev_add ev_int (ev_mod (ev_var rfl) ev_int (by decide))) ?_)
  show PyData.int _ = .int (coinsBy x m)
  rw [coinsBy, if_neg h0, if_neg h1, if_neg h2]

/-! ### _law_table_by -/
def mkTab (n : Nat) (f : Nat → Nat → Int) : List (List Int) := (List.range n).map fun i => (List.range n).map fun k => f i k
theorem mkTab_tab {n : Nat} {f : Nat → Nat → Int} (h1 : 1 ≤ n) (h8 : n ≤ 8) (hf : ∀ i k, 0 ≤ f i k ∧ f i k ≤ 1000000) : Tab (mkTab n f) n := by
  refine ⟨by simp [mkTab], h1, h8, fun r hr => ?_, fun r hr x hx => ?_⟩
  · obtain ⟨i, _, rfl⟩ := List.mem_map.mp hr
    simp
  · obtain ⟨i, _, rfl⟩ := List.mem_map.mp hr
    obtain ⟨k, _, rfl⟩ := List.mem_map.mp hx
    exact hf i k
def tableBy (ns : List Int) (n : Nat) : List (List Int) := mkTab n fun i k => coinsBy (ce ns (3 + (n * i + k) % 60)) (ce ns 1 % 4)
theorem tableBy_tab {ns : List Int} {n : Nat} (h1 : 1 ≤ n) (h8 : n ≤ 8) : Tab (tableBy ns n) n := mkTab_tab h1 h8 fun _ _ => coinsBy_ok _ _
def S_law_table_by (c : CA) (ds : List PyData) (r : Res) : Prop := ∃ (ns : List Int) (n : Nat), ds = [scr ns, .int (n : Int)] ∧ ns.length ≤ 63 ∧ n ≤ 8 ∧ r = .own ((tableBy ns n).map li)
abbrev t_law_table_by (K : PySem.W.Frag) (c : CA) (E : XK) : TS :=
  (tSeq (tAsg (tOp rModI (tCall (spOf K (S_law_cell_at c)) [] E (tCons (tVar 0) (tCons (tC (.int 1)) tNil))) (tC (.int 4))) (gName 2))
    (tSeq (tAsg (tLst tNil) (gName 3))
    (tSeq (tFor (iRng1 (tCons (tVar 1) tNil)) (gName 4) (tDrop (tBM K "list" rAppend (tVar 3) (tCons (tLc (iRng1 (tCons (tVar 1) tNil)) (gName 5) tYes (tCall (spOf K (S_law_coins_by c)) [] E0 (tCons (tCall (spOf K (S_law_cell_at c)) [] E0 (tCons (tVar 0) (tCons (tOp rAdd3 (tC (.int 3)) (tOp rModI (tOp rAdd3 (tOp rMul2 (tVar 1) (tVar 4)) (tVar 5)) (tC (.int 60)))) tNil))) (tCons (tVar 2) tNil))) [5]) tNil))))
    (tRet (tVar 3)))))
abbrev N_law_table_by : List Str := ["_law_script", "_law_many", "_law_mode", "_law_table", "_law_one", "_law_room"]
theorem range_take (n i : Nat) (h : i ≤ n) : (List.range n).take i = List.range i := by
  rw [List.take_range, Nat.min_eq_left h]
/-- a table that a loop fills row by row -/
theorem rows_more {n : Nat} {f : Nat → Nat → Int} (i : Nat) : ((mkTab n f).take i).map li = ((List.range n).take i).map fun i => li ((List.range n).map fun k => f i k) := by
  unfold mkTab
  rw [← List.map_take, List.map_map]; rfl
theorem ht_law_table_by (h : S_law_table_by c ds r) : HT K E (t_law_table_by K c E) (env0 N_law_table_by ds) (Post r) := by
  obtain ⟨ns, n, rfl, hn, h8, rfl⟩ := h
  show HT K E _ [.da (scr ns), .da (.int (n : Int)), .no, .no, .no, .no] _
  refine ht_seq (ht_asg (ev_mod (ev_ce (ev_var rfl) (k := 1) ev_int hn) ev_int (by decide)) ?_)
  refine ht_seq (ht_asgO (eo_lst ea_nil (by decide)) ?_)
  refine ht_seq (ht_forR (n := (n : Int)) (fun i Γ' => ∃ s, Γ' = [.da (scr ns), .da (.int (n : Int)), .da (.int (ce ns 1 % 4)), .ow ((List.range i).map fun i => li ((List.range n).map fun k => coinsBy (ce ns (3 + (n * i + k) % 60)) (ce ns 1 % 4))), s, .no])
    (ea_cons (ev_var rfl) ea_nil) (by omega) ⟨_, rfl⟩ ?_ ?_)
  · rintro i Γ' hi ⟨s, rfl⟩
    have hi : i < n := by omega
    show HT K E _ [.da (scr ns), .da (.int (n : Int)), .da (.int (ce ns 1 % 4)), .ow _, .da (.int (i : Int)), .no] _
    refine ht_app rfl (EvO.toD (eo_mapR (j := 5) (n := (n : Int)) (fun k => .int (coinsBy (ce ns (3 + (n * i + k) % 60)) (ce ns 1 % 4))) (ea_cons (ev_var rfl) ea_nil) (by omega) fun k hk => ?_)) (by simp; omega) ⟨.da (.int (i : Int)), ?_⟩
    · refine ev_call (ea_cons (ev_ce (k := 3 + (n * i + k) % 60) (ev_var rfl) (evd_eq (ev_add ev_int (ev_mod (ev_add (ev_mul (ev_var rfl) (ev_var rfl) (.inl (by omega))) (ev_var rfl)) ev_int (by decide))) ?_) hn) (ea_cons (ev_var rfl) ea_nil)) ⟨_, _, rfl, rfl⟩
      exact congrArg PyData.int (by push_cast; rfl)
    · rw [List.range_succ, List.map_append, Int.toNat_natCast]
      simp [li, List.map_map, Function.comp_def]
  · rintro Γ' ⟨s, rfl⟩
    refine ht_retS rfl ?_
    show _ = List.map li (tableBy ns n)
    rw [Int.toNat_natCast]
    unfold tableBy mkTab
    rw [List.map_map]; rfl

/-! ### _law_rooms_by -/
def dealGo : Nat → Int → List Nat → List Nat
  | 0, _, _ => []
  | k + 1, x, left => left.getD (x % ((k + 1 : Nat) : Int)).toNat 0 :: dealGo k (x / ((k + 1 : Nat) : Int)) (left.eraseIdx (x % ((k + 1 : Nat) : Int)).toNat)
def roomsBy (x : Int) (n : Nat) : List Nat := dealGo n x (List.range n)
theorem map_erase {α β : Type} (f : α → β) : ∀ (l : List α) (i : Nat), (l.map f).eraseIdx i = (l.eraseIdx i).map f
  | [], _ => rfl
  | _ :: _, 0 => rfl
  | a :: l, i + 1 => by
    show f a :: (l.map f).eraseIdx i = f a :: (l.eraseIdx i).map f
    rw [map_erase f l i]
theorem perm_erase {α : Type} : ∀ {l : List α} {i : Nat} {d : α}, i < l.length → (l.getD i d :: l.eraseIdx i).Perm l
  | [], i, d, h => absurd h (Nat.not_lt_zero _)
  | a :: l, 0, d, h => .refl _
  | a :: l, i + 1, d, h => by
    have ih := perm_erase (l := l) (i := i) (d := d) (by simpa using h)
    show (l.getD i d :: a :: l.eraseIdx i).Perm (a :: l)
    exact (List.Perm.swap ..).trans (ih.cons a)
theorem deal_ix {x : Int} {k : Nat} : (x % ((k + 1 : Nat) : Int)).toNat < k + 1 ∧ (((x % ((k + 1 : Nat) : Int)).toNat : Nat) : Int) = x % ((k + 1 : Nat) : Int) := by
  have h1 := Int.emod_nonneg x (b := ((k + 1 : Nat) : Int)) (by omega)
  have h2 := Int.emod_lt_of_pos x (b := ((k + 1 : Nat) : Int)) (by omega)
  omega
theorem dealGo_perm : ∀ {k : Nat} {x : Int} {left : List Nat}, left.length = k → (dealGo k x left).Perm left
  | 0, x, left, h => by
    have : left = [] := List.length_eq_zero_iff.mp h
    subst this; exact .refl _
  | k + 1, x, left, h => by
    have hi : (x % ((k + 1 : Nat) : Int)).toNat < left.length := by rw [h]; exact deal_ix.1
    have ih := dealGo_perm (k := k) (x := x / ((k + 1 : Nat) : Int)) (left := left.eraseIdx (x % ((k + 1 : Nat) : Int)).toNat) (by rw [List.length_eraseIdx_of_lt hi]; omega)
    exact (ih.cons _).trans (perm_erase hi)
theorem roomsBy_rms (x : Int) (n : Nat) : Rms (roomsBy x n) n := by
  have p : (roomsBy x n).Perm (List.range n) := dealGo_perm (by simp)
  exact ⟨by rw [p.length_eq]; simp, fun r hr => by simpa using (p.mem_iff.mp hr), p.nodup_iff.mpr List.nodup_range⟩
def S_law_rooms_by (c : CA) (ds : List PyData) (r : Res) : Prop := ∃ (x : Int) (n : Nat), ds = [.int x, .int (n : Int)] ∧ n ≤ 8 ∧ r = .own ((roomsBy x n).map fun r : Nat => .int (r : Int))
abbrev t_law_rooms_by (K : PySem.W.Frag) (c : CA) (E : XK) : TS :=
  (tSeq (tAsg (tLstRg (tRg1 (tVar 1))) (gName 2))
    (tSeq (tAsg (tLst tNil) (gName 3))
    (tSeq (tWhile (tTest (tOp rGtI (tCB (rLenV K) (tCons (tVar 2) tNil)) (tC (.int 0)))) (tSeq (tDrop (tBM K "list" rAppend (tVar 3) (tCons (tBM K "list" rPopAt (tVar 2) (tCons (tOp rModI (tVar 0) (tCB (rLenV K) (tCons (tVar 2) tNil))) tNil)) tNil)))
    (tAsg (tOp rDivI (tVar 0) (tOp rAdd3 (tCB (rLenV K) (tCons (tVar 2) tNil)) (tC (.int 1)))) (gName 0))))
    (tRet (tVar 3)))))
abbrev N_law_rooms_by : List Str := ["_law_cell", "_law_many", "_law_left", "_law_rooms"]
theorem ht_law_rooms_by (h : S_law_rooms_by c ds r) : HT K E (t_law_rooms_by K c E) (env0 N_law_rooms_by ds) (Post r) := by
  obtain ⟨x, n, rfl, h8, rfl⟩ := h
  show HT K E _ [.da (.int x), .da (.int (n : Int)), .no, .no] _
  refine ht_seq (ht_asgO (eo_listRg (n := (n : Int)) (ev_var rfl) (by omega)) ?_)
  refine ht_seq (ht_asgO (eo_lst ea_nil (by decide)) ?_)
  refine ht_seq (ht_while (m0 := n) (fun m Γ' => ∃ (y : Int) (left done : List Nat), left.length = m ∧ m ≤ 8 ∧ done.length ≤ 8 ∧ done.length + m = n ∧ done ++ dealGo m y left = roomsBy x n ∧
      Γ' = [.da (.int y), .da (.int (n : Int)), .ow (left.map fun r : Nat => .int (r : Int)), .ow (done.map fun r : Nat => .int (r : Int))]) ⟨x, List.range n, [], by simp, h8, by simp, by simp, rfl, ?_⟩ ?_)
  · rw [Int.toNat_natCast]; rfl
  · rintro m Γ' ⟨y, left, done, hl, hm, hd, hdm, he, rfl⟩
    refine ⟨_, et_frz (et_test (ev_gt (ev_lenL (ev_var rfl)) ev_int)), fun h => ?_, fun h => ?_⟩
    · rw [List.length_map] at h
      have h := of_decide_eq_true h
      obtain ⟨k, rfl⟩ : ∃ k, m = k + 1 := ⟨m - 1, by omega⟩
      have ix := deal_ix (x := y) (k := k)
      have hlen : ((left.map fun r : Nat => PyData.int (r : Int)).length : Int) = ((k + 1 : Nat) : Int) := by rw [List.length_map, hl]
      refine ht_seq (ht_appPop (k := y % ((k + 1 : Nat) : Int)) (d := .int ((left.getD (y % ((k + 1 : Nat) : Int)).toNat 0 : Nat) : Int)) (by decide) rfl rfl (ev_frz (evd_eq (ev_mod (ev_var rfl) (ev_lenL (ev_var rfl)) (by rw [hlen]; omega)) (by rw [hlen]))) (by omega) ?_ (by rw [List.length_map]; omega) (by rw [List.length_map]; omega) ?_)
      · rw [List.getElem?_map, List.getD_eq_getElem?_getD, List.getElem?_eq_getElem (by rw [hl]; exact ix.1)]
        rfl
      · have el : (left.eraseIdx (y % ((k + 1 : Nat) : Int)).toNat).length = k := by rw [List.length_eraseIdx_of_lt (by rw [hl]; exact ix.1)]; omega
        show HT K E _ [.da (.int y), .da (.int (n : Int)), .ow ((left.map fun r : Nat => PyData.int (r : Int)).eraseIdx (y % ((k + 1 : Nat) : Int)).toNat), .ow (done.map (fun r : Nat => PyData.int (r : Int)) ++ [.int ((left.getD (y % ((k + 1 : Nat) : Int)).toNat 0 : Nat) : Int)])] _
        have el2 : (((left.map fun r : Nat => PyData.int (r : Int)).eraseIdx (y % ((k + 1 : Nat) : Int)).toNat).length : Int) = (k : Int) := by
          rw [map_erase, List.length_map, el]
        refine ht_asg (d := .int (y / ((k + 1 : Nat) : Int))) (ev_frz (evd_eq (ev_div (ev_var rfl) (ev_add (ev_lenL (ev_var rfl)) ev_int) (by rw [el2]; unfold CDiv; omega)) (by rw [el2]; rfl))) ?_
        refine ⟨k, by omega, y / ((k + 1 : Nat) : Int), left.eraseIdx (y % ((k + 1 : Nat) : Int)).toNat, done ++ [left.getD (y % ((k + 1 : Nat) : Int)).toNat 0], el, by omega, by rw [List.length_append]; simp; omega, by rw [List.length_append]; simp; omega, ?_, ?_⟩
        · rw [← he, List.append_assoc]; rfl
        · rw [List.map_append, ← map_erase]; rfl
    · rw [List.length_map] at h
      have h := of_decide_eq_false h
      have hm0 : m = 0 := by omega
      subst hm0
      have hd0 : done = roomsBy x n := by rw [← he]; simp [dealGo]
      subst hd0
      exact ht_retS rfl rfl

/-! ### _law_whole -/
def S_law_whole (c : CA) (ds : List PyData) (r : Res) : Prop := ∃ d, ds = [d] ∧ r = .ok (.bool (whole d))
abbrev t_law_whole (K : PySem.W.Frag) (c : CA) (E : XK) : TS :=
  (tRet (tAndV (tCB (rIsi K) (tCons (tVar 0) (tCons (tC (.ty "int")) tNil))) (tNotV (tCB (rIsi K) (tCons (tVar 0) (tCons (tC (.ty "bool")) tNil))))))
abbrev N_law_whole : List Str := ["_law_found"]
theorem ht_law_whole (h : S_law_whole c ds r) : HT K E (t_law_whole K c E) (env0 N_law_whole ds) (Post r) := by
  obtain ⟨d, rfl, rfl⟩ := h
  refine ht_ret (d := .bool (whole d)) (evd_eq (ev_and (ev_isi (ev_var rfl) (kit_int d)) fun _ => ev_not (ev_isi (ev_var rfl) (kit_bool d))) (by rw [whole_eq])) rfl
theorem ev_wholeL {d : PyData} (h : EvD K ta Γ d) : EvD K (tCall (spOf K (S_law_whole c)) [] E (tCons ta tNil)) Γ (.bool (whole d)) := ev_call (ea_cons h ea_nil) ⟨d, rfl, rfl⟩
/-- [list(row) for row in table] -/
theorem eo_copy {j : Nat} {W : List (List Int)} (h : EvD K te Γ (PD.tb W)) (hj : j < Γ.length) (hz : W.length ≤ 100000) : EvO K (tLc (iList K te) (gName j) tYes (tCB (rListV K) (tCons (tVar j) tNil)) [j]) Γ (W.map li) :=
  eo_mapL W li li h hz fun x _ => (eo_list (ev_var (by rw [List.getElem?_set_self (by simp [wipeE]; exact hj)]))).toD
end
end PD

set_option Elab.async false
set_option linter.all false
set_option maxRecDepth 100000
set_option maxHeartbeats 1000000
/-! roomshare/rings.py: the contracts and what the bodies do. -/
namespace PD
open PySem L2
abbrev lnL (R : List Nat) : List PyData := R.map fun r : Nat => .int (r : Int)
section
variable {K : PySem.W.Frag} {c : CA} {E : XK} {Γ : Env} {ta tb te : TE} {ds : List PyData} {r : Res}
/-! ### turned -/
structure Ring (Q : List Nat) (n : Nat) : Prop where
  lt : ∀ q ∈ Q, q < n
  nd : Q.Nodup
  two : 2 ≤ Q.length
def turnGo (R Q : List Nat) : Nat → List Nat
  | 0 => R
  | p + 1 => (turnGo R Q p).set (Q.getD p 0) (R.getD (Q.getD ((p + 1) % Q.length) 0) 0)
def turn (R Q : List Nat) : List Nat := turnGo R Q Q.length
def turnOk (d e : PyData) : Bool := decide (1 ≤ lenD d) && decide (lenD d ≤ 8) && isPlaces d (lenD d) && isPlaces e (lenD d) && decide (2 ≤ lenD e)
def S_turned (c : CA) (ds : List PyData) (r : Res) : Prop :=
  (∃ (R Q : List Nat) (n : Nat), Rms R n ∧ 1 ≤ n ∧ n ≤ 8 ∧ Ring Q n ∧ ds = [ln R, ln Q] ∧ r = .own (lnL (turn R Q))) ∨
  (∃ d e, ds = [d, e] ∧ okR d ∧ okR e ∧ turnOk d e = false ∧ r = .er c.br)
theorem turnGo_len (R Q : List Nat) : ∀ k, (turnGo R Q k).length = R.length
  | 0 => rfl
  | k + 1 => by simp [turnGo, turnGo_len R Q k]
theorem nodup_le : ∀ {n : Nat} {Q : List Nat}, (∀ q ∈ Q, q < n) → Q.Nodup → Q.length ≤ n
  | 0, Q, h1, _ => by
    cases Q with
    | nil => exact Nat.le_refl _
    | cons q Q => exact absurd (h1 q List.mem_cons_self) (Nat.not_lt_zero _)
  | n + 1, Q, h1, h2 => by
    have ih := nodup_le (n := n) (Q := Q.erase n) (fun q hq => by
      have h := (List.Nodup.mem_erase_iff h2).mp hq
      have := h1 q h.2
      have := h.1
      omega) (h2.erase n)
    by_cases hm : n ∈ Q
    · rw [List.length_erase_of_mem hm] at ih; omega
    · rw [List.erase_of_not_mem hm] at ih; omega
theorem Ring.le {Q : List Nat} {n : Nat} (g : Ring Q n) : Q.length ≤ n := nodup_le g.lt g.nd
abbrev t_turned (K : PySem.W.Frag) (c : CA) (E : XK) : TS :=
  (tSeq (tIfS (tOr (tNot (tB (tCB (rIsi K) (tCons (tVar 0) (tCons (tC (.ty "list")) tNil))))) (tOr (tNot (tTest (tChain rLeI rLeI (tC (.int 1)) (tCB (rLenV K) (tCons (tVar 0) tNil)) (tC (.int 8))))) (tNot (tB (tCall (spOf K (S_are_places c)) [] E (tCons (tVar 0) (tCons (tCB (rLenV K) (tCons (tVar 0) tNil)) tNil))))))) (tRaiseC c.br E) tNext)
    (tSeq (tIfS (tOr (tNot (tB (tCall (spOf K (S_are_places c)) [] E (tCons (tVar 1) (tCons (tCB (rLenV K) (tCons (tVar 0) tNil)) tNil))))) (tTest (tOp rLtI (tCB (rLenV K) (tCons (tVar 1) tNil)) (tC (.int 2))))) (tRaiseC c.br E) tNext)
    (tSeq (tAsg (tCB (rListV K) (tCons (tVar 0) tNil)) (gName 2))
    (tSeq (tFor (iRng1 (tCons (tCB (rLenV K) (tCons (tVar 1) tNil)) tNil)) (gName 3) (tAsg (tOp (rIx K) (tVar 0) (tOp (rIx K) (tVar 1) (tOp rModI (tOp rAdd3 (tVar 3) (tC (.int 1))) (tCB (rLenV K) (tCons (tVar 1) tNil))))) (gSub (tVar 2) (tOp (rIx K) (tVar 1) (tVar 3)) rSetL)))
    (tRet (tVar 2))))))
abbrev N_turned : List Str := ["rooms", "ring", "found", "place"]
theorem of_places : ∀ {xs : List PyData} {m : Nat} {seen : List Int}, plOk m seen xs = true → ∃ R : List Nat, xs = lnL R ∧ (∀ r ∈ R, r < m ∧ ((r : Nat) : Int) ∉ seen) ∧ R.Nodup
  | [], m, seen, _ => ⟨[], rfl, fun _ h => (nomatch h), List.nodup_nil⟩
  | x :: xs, m, seen, h => by
    cases x with
    | int i =>
      have h' : ((0 ≤ i ∧ i < (m : Int)) ∧ ¬ i ∈ seen) ∧ plOk m (seen ++ [i]) xs = true := by simpa [plOk] using h
      obtain ⟨⟨⟨h1, h2⟩, h3⟩, h4⟩ := h'
      obtain ⟨R, rfl, h5, h6⟩ := of_places h4
      have ei : ((i.toNat : Nat) : Int) = i := by omega
      refine ⟨i.toNat :: R, by show _ = PyData.int _ :: _; rw [ei], fun r hr => ?_, List.nodup_cons.mpr ⟨fun hm => ?_, h6⟩⟩
      · rcases List.mem_cons.mp hr with e | e
        · subst e; exact ⟨by omega, by rw [ei]; exact h3⟩
        · exact ⟨(h5 r e).1, fun z => (h5 r e).2 (List.mem_append.mpr (.inl z))⟩
      · exact (h5 _ hm).2 (List.mem_append.mpr (.inr (by rw [ei]; exact List.mem_singleton.mpr rfl)))
    | _ => cases h
theorem isPlaces_of {d : PyData} {m : Nat} (h : isPlaces d m = true) : ∃ R : List Nat, d = ln R ∧ (∀ r ∈ R, r < m) ∧ R.Nodup := by
  cases d with
  | list xs =>
    obtain ⟨R, rfl, h1, h2⟩ := of_places h
    exact ⟨R, rfl, fun r hr => (h1 r hr).1, h2⟩
  | _ => cases h
theorem ht_turned (h : S_turned c ds r) : HT K E (t_turned K c E) (env0 N_turned ds) (Post r) := by
  rcases h with ⟨R, Q, n, q, n1, n8, g, rfl, rfl⟩ | ⟨d, e, rfl, hd, he, hk, rfl⟩
  · show HT K E _ [.da (ln R), .da (ln Q), .no, .no] _
    have lR : (lnL R).length = n := by rw [List.length_map, q.len]
    have lQ : (lnL Q).length = Q.length := by rw [List.length_map]
    have gl := g.le
    have g2 := g.two
    refine ht_seq (ht_if (b := false) (evt_eq (et_or (et_not (et_B (ev_isi (ev_var rfl) (kit_list _)))) fun _ => et_or (et_not (et_test (ev_leLe ev_int (ev_lenL (ev_var rfl)) ev_int))) fun _ => et_not (et_B (ev_call (ea_cons (ev_var rfl) (ea_cons (ev_lenL (ev_var rfl)) ea_nil)) ⟨ln R, n, by rw [lR], okR_ln (by rw [q.len]; omega), rfl⟩))) ?_) (fun z => nomatch z) fun _ => ht_next ?_)
    · rw [places_ln q.lt q.nd, lR]
      simp [isList]; omega
    refine ht_seq (ht_if (b := false) (evt_eq (et_or (et_not (et_B (ev_call (ea_cons (ev_var rfl) (ea_cons (ev_lenL (ev_var rfl)) ea_nil)) ⟨ln Q, n, by rw [lR], okR_ln (by omega), rfl⟩))) fun _ => et_test (ev_lt (ev_lenL (ev_var rfl)) ev_int)) ?_) (fun z => nomatch z) fun _ => ht_next ?_)
    · rw [places_ln g.lt g.nd, lQ]
      simp; omega
    refine ht_seq (ht_asgO (eo_list (ev_var rfl)) ?_)
    refine ht_seq (ht_forR (n := (Q.length : Int)) (fun i Γ' => ∃ s, Γ' = [.da (ln R), .da (ln Q), .ow (lnL (turnGo R Q i)), s]) (ea_cons (evd_eq (ev_lenL (ev_var rfl)) (by rw [lQ])) ea_nil) (by omega) ⟨_, rfl⟩ ?_ ?_)
    · rintro i Γ' hi ⟨s, rfl⟩
      have hi : i < Q.length := by omega
      show HT K E _ [.da (ln R), .da (ln Q), .ow (lnL (turnGo R Q i)), .da (.int (i : Int))] _
      have hm : (i + 1) % Q.length < Q.length := Nat.mod_lt _ (by omega)
      have a1 : Q.getD i 0 < n := g.lt _ (getD_mem hi)
      have a2 : Q.getD ((i + 1) % Q.length) 0 < n := g.lt _ (getD_mem hm)
      refine ht_set (k := ((Q.getD i 0 : Nat) : Int)) rfl (ev_roomOf q (ev_var rfl) (ev_room (i := (i + 1) % Q.length) (ev_var rfl) (evd_eq (ev_mod (ev_add (ev_var rfl) ev_int) (ev_lenL (ev_var rfl)) (by rw [lQ]; omega)) ?_) hm) a2) (ev_room (ev_var rfl) (ev_var rfl) hi) (by omega) ?_ ?_
      · rw [lQ]
        exact congrArg PyData.int (by push_cast; rfl)
      · rw [List.length_map, turnGo_len, q.len]; omega
      · refine ⟨.da (.int (i : Int)), ?_⟩
        show [Sl.da (ln R), .da (ln Q), .ow (((turnGo R Q i).map fun r : Nat => PyData.int (r : Int)).set ((Q.getD i 0 : Nat) : Int).toNat (.int ((R.getD (Q.getD ((i + 1) % Q.length) 0) 0 : Nat) : Int))), .da (.int (i : Int))] = _
        rw [Int.toNat_natCast, ← List.map_set]
        rfl
    · rintro Γ' ⟨s, rfl⟩
      refine ht_retS rfl ?_
      rw [Int.toNat_natCast]
      rfl
  · show HT K E _ [.da d, .da e, .no, .no] _
    by_cases hl : isList d = true
    · obtain ⟨xs, rfl⟩ := of_list hl hd.1
      have hk' : turnOk (.list xs) e = (decide (1 ≤ xs.length) && decide (xs.length ≤ 8) && isPlaces (.list xs) xs.length && isPlaces e xs.length && decide (2 ≤ lenD e)) := rfl
      refine ht_seq (ht_if (et_or (et_not (et_B (ev_isi (ev_var rfl) (kit_list _)))) fun _ => et_or (et_not (et_test (ev_leLe ev_int (ev_lenL (ev_var rfl)) ev_int))) fun _ => et_not (et_B (ev_call (ea_cons (ev_var rfl) (ea_cons (ev_lenL (ev_var rfl)) ea_nil)) ⟨.list xs, xs.length, rfl, hd, rfl⟩))) (fun h => ht_raise rfl) (fun h => ht_next ?_))
      have h1 : 1 ≤ xs.length ∧ xs.length ≤ 8 ∧ isPlaces (.list xs) xs.length = true := by
        simp [isList] at h
        refine ⟨by omega, by omega, h.2⟩
      have ep : EvD K (tCall (spOf K (S_are_places c)) [] E (tCons (tVar 1) (tCons (tCB (rLenV K) (tCons (tVar 0) tNil)) tNil))) [.da (.list xs), .da e, .no, .no] (.bool (isPlaces e xs.length)) :=
        ev_call (ea_cons (ev_var rfl) (ea_cons (ev_lenL (ev_var rfl)) ea_nil)) ⟨e, xs.length, rfl, he, rfl⟩
      by_cases hp : isPlaces e xs.length = true
      · obtain ⟨Q, rfl, _, _⟩ := isPlaces_of hp
        refine ht_seq (ht_if (b := true) (evt_eq (et_or (et_not (et_B ep)) fun _ => et_test (ev_lt (ev_lenL (ev_var rfl)) ev_int)) ?_) (fun _ => ht_raise rfl) (fun z => nomatch z))
        rw [hk', h1.2.2, hp] at hk
        have : lenD (ln Q) = Q.length := by show (Q.map _).length = _; rw [List.length_map]
        rw [this] at hk
        simp [h1.1, h1.2.1] at hk
        rw [hp, List.length_map]
        simp
        omega
      · have hp' : isPlaces e xs.length = false := by simpa using hp
        refine ht_seq (ht_if (b := true) (evt_eq (et_or (b := false) (et_not (et_B ep)) fun z => ?_) (by rw [hp']; rfl)) (fun _ => ht_raise rfl) (fun z => nomatch z))
        rw [hp'] at z; cases z
    · have hl' : isList d = false := by simpa using hl
      refine ht_seq (ht_if (b := true) (evt_eq (et_or (b := false) (et_not (et_B (ev_isi (ev_var rfl) (kit_list _)))) fun e => ?_) (by rw [hl']; rfl)) (fun _ => ht_raise rfl) (fun z => nomatch z))
      rw [hl'] at e; cases e

/-! ### ways -/
abbrev Wy := Nat → Nat → Int × List Nat
abbrev wpD (x : Int × List Nat) : PyData := .tuple [.int x.1, ln x.2]
def rowD (n : Nat) (f : Nat → Int × List Nat) : PyData := .list ((List.range n).map fun j => wpD (f j))
def wyD (n : Nat) (w : Wy) : PyData := .list ((List.range n).map fun i => rowD n (w i))
theorem range_getD {n i d : Nat} (h : i < n) : (List.range n).getD i d = i := by
  rw [List.getD_eq_getElem?_getD, List.getElem?_range h]; rfl
theorem ev_rowAt {n j : Nat} {f : Nat → Int × List Nat} (ha : EvD K ta Γ (rowD n f)) (hb : EvD K tb Γ (.int (j : Int))) (h : j < n) : EvD K (tOp (rIx K) ta tb) Γ (wpD (f j)) :=
  ev_ixL ha hb (by
    have := atI_map (f := fun j => wpD (f j)) (xs := List.range n) (i := (j : Int)) (by omega) (by simp; omega) 0
    rwa [Int.toNat_natCast, range_getD h] at this)
theorem ev_wyAt {n i : Nat} {w : Wy} (ha : EvD K ta Γ (wyD n w)) (hb : EvD K tb Γ (.int (i : Int))) (h : i < n) : EvD K (tOp (rIx K) ta tb) Γ (rowD n (w i)) :=
  ev_ixL ha hb (by
    have := atI_map (f := fun i => rowD n (w i)) (xs := List.range n) (i := (i : Int)) (by omega) (by simp; omega) 0
    rwa [Int.toNat_natCast, range_getD h] at this)
theorem ev_fst {x : Int × List Nat} (ha : EvD K ta Γ (wpD x)) : EvD K (tOp (rIx K) ta (tC (.int 0))) Γ (.int x.1) := ev_ixT ha ev_int rfl
theorem ev_snd {x : Int × List Nat} (ha : EvD K ta Γ (wpD x)) : EvD K (tOp (rIx K) ta (tC (.int 1))) Γ (ln x.2) := ev_ixT ha ev_int rfl
theorem shp_wp (x : Int × List Nat) : Shp 2 (wpD x) := shp_tup fun y hy => by
  rcases List.mem_cons.mp hy with e | e
  · subst e; exact (shp_int _).up (by decide)
  · rcases List.mem_cons.mp e with e | e
    · subst e; exact shp_ln _
    · cases e
theorem shp_row (n : Nat) (f : Nat → Int × List Nat) : Shp 3 (rowD n f) := shp_list fun j _ => shp_wp (f j)
theorem shp_wy (n : Nat) (w : Wy) : Shp 4 (wyD n w) := shp_list fun i _ => shp_row n (w i)

def w0 (W : List (List Int)) (R : List Nat) : Wy := fun i j => if i = j then (0, [i]) else (gn W R i j, [i, j])
def S_first_ways (c : CA) (ds : List PyData) (r : Res) : Prop := ∃ (W : List (List Int)) (R : List Nat) (n : Nat), Tab W n ∧ Rms R n ∧ ds = [PD.tb W, ln R] ∧ r = .ok (wyD n (w0 W R))
abbrev t_first_ways (K : PySem.W.Frag) (c : CA) (E : XK) : TS :=
  (tSeq (tAsg (tLst tNil) (gName 2))
    (tSeq (tFor (iRng1 (tCons (tCB (rLenV K) (tCons (tVar 1) tNil)) tNil)) (gName 3) (tSeq (tAsg (tLst tNil) (gName 4))
    (tSeq (tFor (iRng1 (tCons (tCB (rLenV K) (tCons (tVar 1) tNil)) tNil)) (gName 5) (tIfS (tTest (tOp (rEq2 K) (tVar 3) (tVar 5))) (tDrop (tBM K "list" rAppend (tVar 4) (tCons (tTup (tCons (tC (.int 0)) (tCons (tLst (tCons (tVar 3) tNil)) tNil))) tNil))) (tDrop (tBM K "list" rAppend (tVar 4) (tCons (tTup (tCons (tCall (spOf K (S_step c)) [] E (tCons (tVar 0) (tCons (tVar 1) (tCons (tVar 3) (tCons (tVar 5) tNil))))) (tCons (tLst (tCons (tVar 3) (tCons (tVar 5) tNil))) tNil))) tNil)))))
    (tDrop (tBM K "list" rAppend (tVar 2) (tCons (tVar 4) tNil))))))
    (tRet (tVar 2))))
abbrev N_first_ways : List Str := ["wishes", "rooms", "ways", "one", "row", "other"]
theorem ev_step {W : List (List Int)} {R : List Nat} {n i j : Nat} {t0 t1 t2 t3 : TE} (t : Tab W n) (q : Rms R n) (hi : i < n) (hj : j < n) (h0 : EvD K t0 Γ (PD.tb W)) (h1 : EvD K t1 Γ (ln R)) (h2 : EvD K t2 Γ (.int (i : Int))) (h3 : EvD K t3 Γ (.int (j : Int))) :
    EvD K (tCall (spOf K (S_step c)) [] E (tCons t0 (tCons t1 (tCons t2 (tCons t3 tNil))))) Γ (.int (gn W R i j)) := ev_call (ea_cons h0 (ea_cons h1 (ea_cons h2 (ea_cons h3 ea_nil)))) ⟨W, R, n, i, j, t, q, hi, hj, rfl, rfl⟩
theorem ht_first_ways (h : S_first_ways c ds r) : HT K E (t_first_ways K c E) (env0 N_first_ways ds) (Post r) := by
  obtain ⟨W, R, n, t, q, rfl, rfl⟩ := h
  show HT K E _ [.da (PD.tb W), .da (ln R), .no, .no, .no, .no] _
  have n8 := t.hi
  have lR : (lnL R).length = n := by rw [List.length_map, q.len]
  refine ht_seq (ht_asgO (eo_lst ea_nil (by decide)) ?_)
  refine ht_seq (ht_forR (n := (n : Int)) (fun i Γ' => ∃ s3 s4 s5, Γ' = [.da (PD.tb W), .da (ln R), .ow ((List.range i).map fun i => rowD n (w0 W R i)), s3, s4, s5]) (ea_cons (evd_eq (ev_lenL (ev_var rfl)) (by rw [lR])) ea_nil) (by omega) ⟨_, _, _, rfl⟩ ?_ ?_)
  · rintro i Γ' hi ⟨s3, s4, s5, rfl⟩
    have hi : i < n := by omega
    refine ht_seq (ht_asgO (eo_lst ea_nil (by decide)) ?_)
    refine ht_seq (ht_forR (n := (n : Int)) (fun j Γ' => ∃ s5, Γ' = [.da (PD.tb W), .da (ln R), .ow ((List.range i).map fun i => rowD n (w0 W R i)), .da (.int (i : Int)), .ow ((List.range j).map fun j => wpD (w0 W R i j)), s5]) (ea_cons (evd_eq (ev_lenL (ev_var rfl)) (by rw [lR])) ea_nil) (by omega) ⟨_, rfl⟩ ?_ ?_)
    · rintro j Γ' hj ⟨s5, rfl⟩
      have hj : j < n := by omega
      show HT K E _ [.da (PD.tb W), .da (ln R), .ow _, .da (.int (i : Int)), .ow _, .da (.int (j : Int))] _
      have fin : ∀ x, w0 W R i j = x → Turn1 (fun j Γ' => ∃ s5, Γ' = [.da (PD.tb W), .da (ln R), .ow ((List.range i).map fun i => rowD n (w0 W R i)), .da (.int (i : Int)), .ow ((List.range j).map fun j => wpD (w0 W R i j)), s5]) j
          (Then K E (tDrop (tBM K "list" rAppend (tVar 2) (tCons (tVar 4) tNil))) (Turn1 (fun i Γ' => ∃ s3 s4 s5, Γ' = [.da (PD.tb W), .da (ln R), .ow ((List.range i).map fun i => rowD n (w0 W R i)), s3, s4, s5]) i (Then K E (tRet (tVar 2)) (Post (.ok (wyD n (w0 W R)))))))
          (.nx [.da (PD.tb W), .da (ln R), .ow ((List.range i).map fun i => rowD n (w0 W R i)), .da (.int (i : Int)), .ow ((List.range j).map (fun j => wpD (w0 W R i j)) ++ [wpD x]), .da (.int (j : Int))]) := fun x hx =>
        ⟨.da (.int (j : Int)), by rw [List.range_succ, List.map_append, ← hx]; rfl⟩
      refine ht_if (et_test (ev_eqI (ev_var rfl) (ev_var rfl))) (fun h => ?_) (fun h => ?_)
      · have h : i = j := by have := of_decide_eq_true h; omega
        refine ht_app (d := wpD (0, [i])) rfl (ev_tup (ea_cons ev_int (ea_cons (EvO.toD (eo_lst (ea_cons (ev_var rfl) ea_nil) (by simp))) ea_nil)) (by simp)) (by simp; omega) (fin _ (by simp [w0, h]))
      · have h : ¬ i = j := by have := of_decide_eq_false h; omega
        refine ht_app (d := wpD (gn W R i j, [i, j])) rfl (ev_tup (ea_cons (ev_step t q hi hj (ev_var rfl) (ev_var rfl) (ev_var rfl) (ev_var rfl)) (ea_cons (EvO.toD (eo_lst (ea_cons (ev_var rfl) (ea_cons (ev_var rfl) ea_nil)) (by simp))) ea_nil)) (by simp)) (by simp; omega) (fin _ (by simp [w0, h]))
    · rintro Γ' ⟨s5, rfl⟩
      rw [Int.toNat_natCast]
      refine ht_frz (i := 4) rfl ?_
      refine ht_app (d := rowD n (w0 W R i)) rfl (ev_var rfl) (by simp; omega) ⟨.da (.int (i : Int)), .da (rowD n (w0 W R i)), s5, ?_⟩
      rw [List.range_succ, List.map_append]; rfl
  · rintro Γ' ⟨s3, s4, s5, rfl⟩
    rw [Int.toNat_natCast]
    refine ht_frz (i := 2) rfl ?_
    exact ht_ret (ev_var rfl) rfl

def best1 (W : List (List Int)) (R : List Nat) (row : Nat → Int × List Nat) (j : Nat) : Nat → Int × List Nat
  | 0 => row j
  | m + 1 => if (best1 W R row j m).1 < (row m).1 + gn W R m j then ((row m).1 + gn W R m j, (row m).2 ++ [j]) else best1 W R row j m
def lgRow (W : List (List Int)) (R : List Nat) (n : Nat) (row : Nat → Int × List Nat) : Nat → Int × List Nat := fun j => best1 W R row j n
def lg (W : List (List Int)) (R : List Nat) (n : Nat) (w : Wy) : Wy := fun i => lgRow W R n (w i)
def S_longer_row (c : CA) (ds : List PyData) (r : Res) : Prop := ∃ (W : List (List Int)) (R : List Nat) (n : Nat) (row : Nat → Int × List Nat), Tab W n ∧ Rms R n ∧ (∀ j, j < n → (row j).2.length ≤ 1000) ∧ ds = [PD.tb W, ln R, rowD n row] ∧ r = .ok (rowD n (lgRow W R n row))
abbrev t_longer_row (K : PySem.W.Frag) (c : CA) (E : XK) : TS :=
  (tSeq (tAsg (tLst tNil) (gName 3))
    (tSeq (tFor (iRng1 (tCons (tCB (rLenV K) (tCons (tVar 1) tNil)) tNil)) (gName 4) (tSeq (tAsg (tOp (rIx K) (tVar 2) (tVar 4)) (gName 5))
    (tSeq (tFor (iRng1 (tCons (tCB (rLenV K) (tCons (tVar 1) tNil)) tNil)) (gName 6) (tSeq (tAsg (tOp rAdd3 (tOp (rIx K) (tOp (rIx K) (tVar 2) (tVar 6)) (tC (.int 0))) (tCall (spOf K (S_step c)) [] E (tCons (tVar 0) (tCons (tVar 1) (tCons (tVar 6) (tCons (tVar 4) tNil)))))) (gName 7))
    (tIfS (tTest (tOp rGtI (tVar 7) (tOp (rIx K) (tVar 5) (tC (.int 0))))) (tAsg (tTup (tCons (tVar 7) (tCons (tOp rAdd3 (tOp (rIx K) (tOp (rIx K) (tVar 2) (tVar 6)) (tC (.int 1))) (tLst (tCons (tVar 4) tNil))) tNil))) (gName 5)) tNext)))
    (tDrop (tBM K "list" rAppend (tVar 3) (tCons (tVar 5) tNil))))))
    (tRet (tVar 3))))
abbrev N_longer_row : List Str := ["wishes", "rooms", "row", "found", "other", "top", "middle", "worth"]
theorem best1_len {W : List (List Int)} {R : List Nat} {row : Nat → Int × List Nat} {j n l : Nat} (hj : j < n) (h : ∀ j, j < n → (row j).2.length ≤ l) : ∀ m, m ≤ n → (best1 W R row j m).2.length ≤ l + 1
  | 0, _ => Nat.le_succ_of_le (h j hj)
  | m + 1, hm => by
    unfold best1
    split
    · have := h m (by omega); simp; omega
    · exact best1_len hj h m (by omega)
theorem ht_longer_row (h : S_longer_row c ds r) : HT K E (t_longer_row K c E) (env0 N_longer_row ds) (Post r) := by
  obtain ⟨W, R, n, row, t, q, hl, rfl, rfl⟩ := h
  show HT K E _ [.da (PD.tb W), .da (ln R), .da (rowD n row), .no, .no, .no, .no, .no] _
  have n8 := t.hi
  have lR : (lnL R).length = n := by rw [List.length_map, q.len]
  refine ht_seq (ht_asgO (eo_lst ea_nil (by decide)) ?_)
  refine ht_seq (ht_forR (n := (n : Int)) (fun j Γ' => ∃ s4 s5 s6 s7, Γ' = [.da (PD.tb W), .da (ln R), .da (rowD n row), .ow ((List.range j).map fun j => wpD (lgRow W R n row j)), s4, s5, s6, s7]) (ea_cons (evd_eq (ev_lenL (ev_var rfl)) (by rw [lR])) ea_nil) (by omega) ⟨_, _, _, _, rfl⟩ ?_ ?_)
  · rintro j Γ' hj ⟨s4, s5, s6, s7, rfl⟩
    have hj : j < n := by omega
    refine ht_seq (ht_asg (ev_rowAt (ev_var rfl) (ev_var rfl) hj) ?_)
    refine ht_seq (ht_forR (n := (n : Int)) (fun m Γ' => ∃ s6 s7, Γ' = [.da (PD.tb W), .da (ln R), .da (rowD n row), .ow ((List.range j).map fun j => wpD (lgRow W R n row j)), .da (.int (j : Int)), .da (wpD (best1 W R row j m)), s6, s7]) (ea_cons (evd_eq (ev_lenL (ev_var rfl)) (by rw [lR])) ea_nil) (by omega) ⟨_, _, rfl⟩ ?_ ?_)
    · rintro m Γ' hm ⟨s6, s7, rfl⟩
      have hm : m < n := by omega
      refine ht_seq (ht_asg (ev_add (ev_fst (ev_rowAt (ev_var rfl) (ev_var rfl) hm)) (ev_step t q hm hj (ev_var rfl) (ev_var rfl) (ev_var rfl) (ev_var rfl))) ?_)
      refine ht_if (et_test (ev_gt (ev_var rfl) (ev_fst (ev_var rfl)))) (fun h => ?_) (fun h => ?_)
      · have h := of_decide_eq_true h
        have e : best1 W R row j (m + 1) = ((row m).1 + gn W R m j, (row m).2 ++ [j]) := by rw [best1, if_pos h]
        refine ht_asg (d := wpD ((row m).1 + gn W R m j, (row m).2 ++ [j])) (ev_tup (ea_cons (ev_var rfl) (ea_cons (evd_eq (EvO.toD (ev_cat (ev_snd (ev_rowAt (ev_var rfl) (ev_var rfl) hm)) (EvO.toD (eo_lst (ea_cons (ev_var rfl) ea_nil) (by simp))) ?_)) ?_) ea_nil)) (by simp)) ⟨.da (.int (m : Int)), .da (.int ((row m).1 + gn W R m j)), ?_⟩
        · have := hl m hm; simp; omega
        · show PyData.list (lnL _ ++ [.int (j : Int)]) = .list (lnL _)
          simp
        · rw [e]; rfl
      · have h := of_decide_eq_false h
        have e : best1 W R row j (m + 1) = best1 W R row j m := by rw [best1, if_neg h]
        exact ht_next ⟨.da (.int (m : Int)), .da (.int ((row m).1 + gn W R m j)), by rw [e]; rfl⟩
    · rintro Γ' ⟨s6, s7, rfl⟩
      rw [Int.toNat_natCast]
      refine ht_app (d := wpD (lgRow W R n row j)) rfl (ev_var rfl) (by simp; omega) ⟨.da (.int (j : Int)), .da (wpD (lgRow W R n row j)), s6, s7, ?_⟩
      rw [List.range_succ, List.map_append]; rfl
  · rintro Γ' ⟨s4, s5, s6, s7, rfl⟩
    rw [Int.toNat_natCast]
    refine ht_frz (i := 3) rfl ?_
    exact ht_ret (ev_var rfl) rfl

def S_longer (c : CA) (ds : List PyData) (r : Res) : Prop := ∃ (W : List (List Int)) (R : List Nat) (n : Nat) (w : Wy), Tab W n ∧ Rms R n ∧ (∀ i j, i < n → j < n → (w i j).2.length ≤ 1000) ∧ ds = [PD.tb W, ln R, wyD n w] ∧ r = .ok (wyD n (lg W R n w))
abbrev t_longer (K : PySem.W.Frag) (c : CA) (E : XK) : TS :=
  (tRet (tLc (iList K (tVar 2)) (gName 3) tYes (tCall (spOf K (S_longer_row c)) [] E0 (tCons (tVar 0) (tCons (tVar 1) (tCons (tVar 3) tNil)))) [3]))
abbrev N_longer : List Str := ["wishes", "rooms", "ways", "row"]
theorem ht_longer (h : S_longer c ds r) : HT K E (t_longer K c E) (env0 N_longer ds) (Post r) := by
  obtain ⟨W, R, n, w, t, q, hl, rfl, rfl⟩ := h
  show HT K E _ [.da (PD.tb W), .da (ln R), .da (wyD n w), .no] _
  have n8 := t.hi
  refine ht_ret (EvO.toD (eo_mapL (List.range n) (fun i => rowD n (w i)) (fun i => rowD n (lg W R n w i)) (ev_var rfl) (by simp; omega) fun i hi => ?_)) rfl
  have hi : i < n := by simpa using hi
  exact ev_call (ea_cons (ev_var rfl) (ea_cons (ev_var rfl) (ea_cons (ev_var rfl) ea_nil))) ⟨W, R, n, w i, t, q, fun j hj => hl i j hi hj, rfl, rfl⟩

def ringL (w : Wy) : List Nat → Option (List Nat)
  | [] => none
  | i :: is => if 0 < (w i i).1 then some (w i i).2.dropLast else ringL w is
def ringIn (n : Nat) (w : Wy) : Option (List Nat) := ringL w (List.range n)
def ringD : Option (List Nat) → PyData
  | none => .none
  | some r => ln r
theorem isNone_ringD (o : Option (List Nat)) : isNone (ringD o) = o.isNone := by cases o <;> rfl
def S_ring_in (c : CA) (ds : List PyData) (r : Res) : Prop := ∃ (n : Nat) (w : Wy), n ≤ 8 ∧ ds = [wyD n w] ∧ r = .ok (ringD (ringIn n w))
abbrev t_ring_in (K : PySem.W.Frag) (c : CA) (E : XK) : TS :=
  (tSeq (tFor (iRng1 (tCons (tCB (rLenV K) (tCons (tVar 0) tNil)) tNil)) (gName 1) (tIfS (tTest (tOp rGtI (tOp (rIx K) (tOp (rIx K) (tOp (rIx K) (tVar 0) (tVar 1)) (tVar 1)) (tC (.int 0))) (tC (.int 0)))) (tRet (tSl (rSlL K) (tOp (rIx K) (tOp (rIx K) (tOp (rIx K) (tVar 0) (tVar 1)) (tVar 1)) (tC (.int 1))) tNoPart (tPart (tUn (rU fun i => .int (-i)) (tC (.int 1)))))) tNext))
    (tRet (tC .non)))
abbrev N_ring_in : List Str := ["ways", "one"]
theorem range_drop {n i : Nat} (h : i < n) : (List.range n).drop i = i :: (List.range n).drop (i + 1) := by
  rw [List.drop_eq_getElem_cons (by simpa using h), List.getElem_range]
theorem cut_last (xs : List PyData) : cutD xs none (some (-1)) = xs.dropLast := by
  have e1 : _root_.HT.sIx xs.length 0 none = 0 := rfl
  have e2 : _root_.HT.sIx xs.length xs.length (some (-1)) = xs.length - 1 := by
    show (if (-1 : Int) < 0 then ((-1 : Int) + (xs.length : Int)).toNat else min (-1 : Int).toNat xs.length) = _
    rw [if_pos (by decide)]
    omega
  unfold cutD
  rw [e1, e2, List.drop_zero, Nat.sub_zero, List.dropLast_eq_take]
theorem ht_ring_in (h : S_ring_in c ds r) : HT K E (t_ring_in K c E) (env0 N_ring_in ds) (Post r) := by
  obtain ⟨n, w, n8, rfl, rfl⟩ := h
  show HT K E _ [.da (wyD n w), .no] _
  refine ht_seq (ht_forR (n := (n : Int)) (fun i Γ' => ∃ s, Γ' = [.da (wyD n w), s] ∧ ringIn n w = ringL w ((List.range n).drop i)) (ea_cons (evd_eq (ev_lenL (ds := (List.range n).map fun i => rowD n (w i)) (ev_var rfl)) (by simp)) ea_nil) (by omega) ⟨_, rfl, rfl⟩ ?_ ?_)
  · rintro i Γ' hi ⟨s, rfl, hr⟩
    have hi : i < n := by omega
    rw [range_drop hi] at hr
    refine ht_if (et_test (ev_gt (ev_fst (ev_rowAt (ev_wyAt (ev_var rfl) (ev_var rfl) hi) (ev_var rfl) hi)) ev_int)) (fun h => ?_) (fun h => ?_)
    · have h := of_decide_eq_true h
      refine ht_ret (EvO.toD (eo_cut (ev_snd (ev_rowAt (ev_wyAt (ev_var rfl) (ev_var rfl) hi) (ev_var rfl) hi)) ep_none (ep_some (ev_neg ev_int)))) ?_
      show PyData.list _ = ringD (ringIn n w)
      rw [hr, ringL, if_pos h, cut_last]
      simp [ringD, List.map_dropLast]
    · have h := of_decide_eq_false h
      refine ht_next ⟨_, rfl, ?_⟩
      rw [hr, ringL, if_neg h]
  · rintro Γ' ⟨s, rfl, hr⟩
    refine ht_ret ev_non ?_
    rw [Int.toNat_natCast] at hr
    show PyData.none = ringD (ringIn n w)
    rw [hr, List.drop_eq_nil_of_le (by simp)]
    rfl

def sameW (n : Nat) (f w : Wy) : Bool := PyData.eqv (wyD n f) (wyD n w)
def bwGo (W : List (List Int)) (R : List Nat) (n : Nat) : Nat → Wy → Option (List Nat) × Wy
  | 0, w => (none, w)
  | k + 1, w => match ringIn n (lg W R n w) with
    | some r => (some r, lg W R n w)
    | none => if sameW n (lg W R n w) w = true then (none, w) else bwGo W R n k (lg W R n w)
def bw (W : List (List Int)) (R : List Nat) (n : Nat) : Option (List Nat) × Wy := bwGo W R n n (w0 W R)
def S_best_ways (c : CA) (ds : List PyData) (r : Res) : Prop := ∃ (W : List (List Int)) (R : List Nat) (n : Nat), Tab W n ∧ Rms R n ∧ ds = [PD.tb W, ln R] ∧ r = .ok (.tuple [ringD (bw W R n).1, wyD n (bw W R n).2])
abbrev t_best_ways (K : PySem.W.Frag) (c : CA) (E : XK) : TS :=
  (tSeq (tAsg (tCall (spOf K (S_first_ways c)) [] E (tCons (tVar 0) (tCons (tVar 1) tNil))) (gName 2))
    (tSeq (tFor (iList K (tVar 1)) (gName 3) (tSeq (tAsg (tCall (spOf K (S_longer c)) [] E (tCons (tVar 0) (tCons (tVar 1) (tCons (tVar 2) tNil)))) (gName 4))
    (tSeq (tAsg (tCall (spOf K (S_ring_in c)) [] E (tCons (tVar 4) tNil)) (gName 5))
    (tSeq (tIfS (tTest (tOp rNotN (tVar 5) (tC .non))) (tRet (tTup (tCons (tVar 5) (tCons (tVar 4) tNil)))) tNext)
    (tSeq (tIfS (tTest (tOp (rEq2 K) (tVar 4) (tVar 2))) (tRet (tTup (tCons (tC .non) (tCons (tVar 2) tNil)))) tNext)
    (tAsg (tVar 4) (gName 2)))))))
    (tRet (tTup (tCons (tC .non) (tCons (tVar 2) tNil))))))
abbrev N_best_ways : List Str := ["wishes", "rooms", "ways", "turn", "fresh", "ring"]
theorem w0_len {W : List (List Int)} {R : List Nat} {i j : Nat} : (w0 W R i j).2.length ≤ 2 := by
  unfold w0; split <;> simp
theorem ht_best_ways (h : S_best_ways c ds r) : HT K E (t_best_ways K c E) (env0 N_best_ways ds) (Post r) := by
  obtain ⟨W, R, n, t, q, rfl, rfl⟩ := h
  show HT K E _ [.da (PD.tb W), .da (ln R), .no, .no, .no, .no] _
  have n8 := t.hi
  refine ht_seq (ht_asg (ev_call (ea_cons (ev_var rfl) (ea_cons (ev_var rfl) ea_nil)) ⟨W, R, n, t, q, rfl, rfl⟩) ?_)
  refine ht_seq (ht_forN R (fun r : Nat => .int (r : Int)) (fun i Γ' => ∃ w s3 s4 s5, Γ' = [.da (PD.tb W), .da (ln R), .da (wyD n w), s3, s4, s5] ∧ (∀ a b, a < n → b < n → (w a b).2.length ≤ i + 2) ∧ bw W R n = bwGo W R n (n - i) w) (ev_var rfl) ⟨w0 W R, _, _, _, rfl, fun a b _ _ => w0_len, rfl⟩ ?_ ?_)
  · rintro i x Γ' hi ⟨w, s3, s4, s5, rfl, hl, he⟩
    have hi : i < n := by rw [← q.len]; exact (List.getElem?_eq_some_iff.mp hi).1
    have hk : n - i = (n - (i + 1)) + 1 := by omega
    rw [hk, bwGo] at he
    refine ht_seq (ht_asg (ev_call (ea_cons (ev_var rfl) (ea_cons (ev_var rfl) (ea_cons (ev_var rfl) ea_nil))) ⟨W, R, n, w, t, q, fun a b ha hb => Nat.le_trans (hl a b ha hb) (by omega), rfl, rfl⟩) ?_)
    refine ht_seq (ht_asg (ev_call (ea_cons (ev_var rfl) ea_nil) ⟨n, lg W R n w, n8, rfl, rfl⟩) ?_)
    refine ht_seq (ht_if (et_test (ev_notN (ev_var rfl))) (fun h => ?_) (fun h => ht_next ?_))
    · rw [isNone_ringD] at h
      cases hr : ringIn n (lg W R n w) with
      | none => rw [hr] at h; cases h
      | some rr =>
        rw [hr] at he
        refine ht_ret (ev_tup (ea_cons (ev_var rfl) (ea_cons (ev_var rfl) ea_nil)) (by simp)) ?_
        show PyData.tuple _ = _
        rw [he]
    · rw [isNone_ringD] at h
      cases hr : ringIn n (lg W R n w) with
      | some rr => rw [hr] at h; cases h
      | none =>
        rw [hr] at he
        refine ht_seq (ht_if (et_test (ev_eqD (ev_var rfl) (ev_var rfl) (shp_wy n _).is (shp_wy n _).is)) (fun h => ?_) (fun h => ht_next ?_))
        · refine ht_ret (ev_tup (ea_cons ev_non (ea_cons (ev_var rfl) ea_nil)) (by simp)) ?_
          have he2 : bw W R n = if sameW n (lg W R n w) w = true then (none, w) else bwGo W R n (n - (i + 1)) (lg W R n w) := he
          rw [if_pos (show sameW n (lg W R n w) w = true from h)] at he2
          show PyData.tuple _ = _
          rw [he2]; rfl
        · have he2 : bw W R n = if sameW n (lg W R n w) w = true then (none, w) else bwGo W R n (n - (i + 1)) (lg W R n w) := he
          rw [if_neg (show ¬ sameW n (lg W R n w) w = true from fun z => Bool.false_ne_true (h.symm.trans z))] at he2
          refine ht_asg (ev_var rfl) ⟨lg W R n w, _, _, _, rfl, fun a b ha hb => ?_, he2⟩
          have := best1_len (W := W) (R := R) (row := w a) (j := b) (l := i + 2) hb (fun j hj => hl a j ha hj) n (Nat.le_refl _)
          exact Nat.le_trans this (by omega)
  · rintro Γ' ⟨w, s3, s4, s5, rfl, hl, he⟩
    rw [q.len, Nat.sub_self] at he
    refine ht_ret (ev_tup (ea_cons ev_non (ea_cons (ev_var rfl) ea_nil)) (by simp)) ?_
    show PyData.tuple _ = _
    rw [he]; rfl
end
end PD

set_option Elab.async false
set_option linter.all false
set_option maxRecDepth 100000
set_option maxHeartbeats 1000000
/-! More that the laws have in common. -/
namespace PD
open PySem L2
theorem cutD_take (ds : List PyData) (p : Nat) : cutD ds none (some (p : Int)) = ds.take p := by
  have e1 : _root_.HT.sIx ds.length 0 none = 0 := rfl
  unfold cutD
  rw [e1, _root_.HT.sIx_nat, List.drop_zero, Nat.sub_zero]
  by_cases h : p ≤ ds.length
  · rw [Nat.min_eq_left h]
  · rw [Nat.min_eq_right (by omega), List.take_length, List.take_of_length_le (by omega)]
theorem cutD_drop (ds : List PyData) (p : Nat) : cutD ds (some (p : Int)) none = ds.drop p := by
  have e1 : _root_.HT.sIx ds.length ds.length none = ds.length := rfl
  unfold cutD
  rw [e1, _root_.HT.sIx_nat]
  by_cases h : p ≤ ds.length
  · rw [Nat.min_eq_left h, List.take_of_length_le (by rw [List.length_drop]; omega)]
  · rw [Nat.min_eq_right (by omega), List.drop_length, List.drop_eq_nil_of_le (by omega)]; simp
section
variable {K : PySem.W.Frag} {c : CA} {E : XK} {Γ : Env} {ta tb te tl tp : TE} {ds : List PyData} {r : Res}
theorem eo_take {p : Nat} (h : EvD K tl Γ (.list ds)) (hp : EvD K tp Γ (.int (p : Int))) : EvO K (tSl (rSlL K) tl tNoPart (tPart tp)) Γ (ds.take p) :=
  evo_eq (eo_cut h ep_none (ep_some hp)) (cutD_take ds p)
theorem eo_drop {p : Nat} (h : EvD K tl Γ (.list ds)) (hp : EvD K tp Γ (.int (p : Int))) : EvO K (tSl (rSlL K) tl (tPart tp) tNoPart) Γ (ds.drop p) :=
  evo_eq (eo_cut h (ep_some hp) ep_none) (cutD_drop ds p)
/-- xs[:p] + [d] + xs[p + 1:] -/
theorem eo_spl {p : Nat} {d : PyData} (h : EvD K tl Γ (.list ds)) (hp : EvD K tp Γ (.int (p : Int))) (hd : EvD K te Γ d) (hl : p < ds.length) (hz : ds.length ≤ 1000) :
    EvO K (tOp rAdd3 (tOp rAdd3 (tSl (rSlL K) tl tNoPart (tPart tp)) (tLst (tCons te tNil))) (tSl (rSlL K) tl (tPart (tOp rAdd3 tp (tC (.int 1)))) tNoPart)) Γ (ds.set p d) := by
  refine evo_eq (ev_cat (EvO.toD (ev_cat (EvO.toD (eo_take h hp)) (EvO.toD (eo_lst (ea_cons hd ea_nil) (by simp))) ?_)) (EvO.toD (eo_drop (p := p + 1) h (evd_eq (ev_add hp ev_int) (congrArg PyData.int (by push_cast; rfl))))) ?_) ?_
  · simp; omega
  · simp; omega
  · rw [List.set_eq_take_append_cons_drop, if_pos hl]; simp
/-- a list of that many things, one picked by a number -/
theorem ev_pick {k : Nat} (ha : EvD K ta Γ (.list ds)) (hb : EvD K tb Γ (.int (k : Int))) (h : k < ds.length) : EvD K (tOp (rIx K) ta tb) Γ (ds.getD k .none) :=
  ev_ixL ha hb (by
    have := atI_map (f := id) (xs := ds) (i := (k : Int)) (by omega) (by omega) PyData.none
    rw [List.map_id, Int.toNat_natCast] at this
    exact this)
/-- xs[-1] at p = 0 -/
theorem ev_ahead {p : Nat} (ha : EvD K ta Γ (.list ds)) (hb : EvD K tb Γ (.int (p : Int))) (h : p < ds.length) : EvD K (tOp (rIx K) ta (tOp rSubI tb (tC (.int 1)))) Γ (ds.getD (if p = 0 then ds.length - 1 else p - 1) .none) := by
  refine ev_ixL ha (ev_sub hb ev_int) ?_
  rw [List.getD_eq_getElem?_getD]
  have e : ixN ds.length ((p : Int) - 1) = some (if p = 0 then ds.length - 1 else p - 1) := by
    unfold ixN
    by_cases hp : p = 0
    · subst hp
      rw [if_pos rfl, if_neg (by omega)]
      first
        | (rw [if_pos (by omega)]; congr 1; omega)
        | (simp; omega)
    · rw [if_neg hp, if_pos (by omega), if_pos (by omega)]
      congr 1
      omega
  have l : (if p = 0 then ds.length - 1 else p - 1) < ds.length := by split <;> omega
  unfold atI
  rw [e, List.getElem?_eq_getElem l]
  show ds[_]? = _
  rw [List.getElem?_eq_getElem l]
  rfl
end
/-! ### lent slots -/
theorem fix_da {Γ Γf : Env} {i : Nat} {d : PyData} (hf : Fixed Γ Γf) (h : Γ[i]? = some (.da d)) : ∃ v, Γf[i]? = some (.fx v (some d)) := by
  obtain ⟨y, e, f⟩ := hf.get h
  cases f with
  | da v d => exact ⟨v, e⟩
theorem fix_ow {Γ Γf : Env} {i : Nat} {ds : List PyData} (hf : Fixed Γ Γf) (h : Γ[i]? = some (.ow ds)) : ∃ v, Γf[i]? = some (.fx v (some (.list ds))) := by
  obtain ⟨y, e, f⟩ := hf.get h
  cases f with
  | ow p ds => exact ⟨_, e⟩
theorem set_same {α : Type} {l : List α} {j : Nat} {y : α} (h : l[j]? = some y) : l.set j y = l := by
  refine List.ext_getElem? fun i => ?_
  by_cases e : j = i
  · subst e
    rw [List.getElem?_set_self (List.getElem?_eq_some_iff.mp h).1, h]
  · rw [List.getElem?_set_ne e]
/-- behind a statement that stored slot j alone -/
theorem loan_set {Γ Γf : Env} {P : Out → Prop} {j : Nat} {s : Sl} (hf : Fixed Γ Γf) (p : P (.nx (Γ.set j .no))) : Loan Γ Γf P (.nx (Γf.set j s)) := by
  refine ⟨by rw [List.length_set, hf.len], Γ.set j .no, by rw [List.length_set], fun m x q => ?_, p⟩
  by_cases e : j = m
  · subst e
    have hm : j < Γ.length := by have := (List.getElem?_eq_some_iff.mp q).1; simpa using this
    rw [List.getElem?_set_self hm] at q
    cases q
    exact .inl rfl
  · rw [List.getElem?_set_ne e] at q
    exact .inr ⟨q, by rw [List.getElem?_set_ne e]⟩
/-! ### lists that are none of places -/
theorem lnL_inj {R Q : List Nat} (h : lnL R = lnL Q) : R = Q := by
  induction R generalizing Q with
  | nil => cases Q with
    | nil => rfl
    | cons q Q => cases h
  | cons r R ih => cases Q with
    | nil => cases h
    | cons q Q =>
      have h : (PyData.int (r : Int) :: lnL R) = (PyData.int (q : Int) :: lnL Q) := h
      injection h with h1 h2
      injection h1 with h1
      rw [ih h2]
      congr 1
      omega
theorem ln_inj {R Q : List Nat} (h : ln R = ln Q) : R = Q := by
  injection h with h
  exact lnL_inj h
/-- something that is no place stands in it -/
theorem no_places {xs : List PyData} {d : PyData} {m : Nat} (hm : d ∈ xs) (hd : placeOk d m = false) : isPlaces (.list xs) m = false := by
  refine Bool.eq_false_iff.mpr fun h => ?_
  obtain ⟨R, e, h1, _⟩ := isPlaces_of h
  injection e with e
  subst e
  obtain ⟨r, hr, rfl⟩ := List.mem_map.mp hm
  have := h1 r hr
  simp [placeOk] at hd
  omega
/-- the same thing stands at two places -/
theorem dup_places {xs : List PyData} {d : PyData} {m p q : Nat} (hp : xs[p]? = some d) (hq : xs[q]? = some d) (hn : p ≠ q) : isPlaces (.list xs) m = false := by
  refine Bool.eq_false_iff.mpr fun h => ?_
  obtain ⟨R, e, _, h2⟩ := isPlaces_of h
  injection e with e
  subst e
  rw [List.getElem?_map] at hp hq
  obtain ⟨a, ha, rfl⟩ := Option.map_eq_some_iff.mp hp
  obtain ⟨b, hb, e2⟩ := Option.map_eq_some_iff.mp hq
  have eb : b = a := by
    injection e2 with e2
    omega
  subst eb
  obtain ⟨hp1, hp2⟩ := List.getElem?_eq_some_iff.mp ha
  obtain ⟨hq1, hq2⟩ := List.getElem?_eq_some_iff.mp hb
  exact hn ((List.getElem_inj h2).mp (hp2.trans hq2.symm))
theorem long_places {xs : List PyData} {m : Nat} (h : m < xs.length) : isPlaces (.list xs) m = false := by
  refine Bool.eq_false_iff.mpr fun z => ?_
  obtain ⟨R, e, h1, h2⟩ := isPlaces_of z
  injection e with e
  subst e
  have := nodup_le h1 h2
  simp at h
  omega
theorem set_mem {α : Type} {xs : List α} {p : Nat} {d : α} (h : p < xs.length) : d ∈ xs.set p d := by
  refine List.mem_of_getElem? (i := p) ?_
  rw [List.getElem?_set_self h]
/-- xs with another one's thing at p -/
theorem dup_set {xs : List PyData} {m p q : Nat} (hp : p < xs.length) (hq : q < xs.length) (hn : p ≠ q) : isPlaces (.list (xs.set p (xs.getD q .none))) m = false := by
  refine dup_places (p := p) (q := q) (d := xs.getD q .none) (by rw [List.getElem?_set_self hp]) ?_ hn
  rw [List.getElem?_set_ne hn, List.getD_eq_getElem?_getD, List.getElem?_eq_getElem hq]
  rfl
/-- one cell's remainder as a number -/
theorem rem_of (x : Int) {m : Int} (hm : 0 < m) : ∃ k : Nat, x % m = (k : Int) ∧ (k : Int) < m := by
  have h1 := Int.emod_nonneg x (b := m) (by omega)
  have h2 := Int.emod_lt_of_pos x hm
  exact ⟨(x % m).toNat, by omega, by omega⟩
end PD

set_option Elab.async false
set_option linter.all false
set_option maxRecDepth 100000
set_option maxHeartbeats 1000000
/-! The plain law of ways and rings. -/
namespace PD
open PySem L2
/-! ### what a walk is worth -/
def cv (g : Nat → Nat → Int) : List Nat → Int
  | a :: b :: l => g a b + cv g (b :: l)
  | _ => 0
section
variable {g : Nat → Nat → Int}
theorem cv_snoc : ∀ {l : List Nat} {m j : Nat}, l.getLast? = some m → cv g (l ++ [j]) = cv g l + g m j
  | [], m, j, h => by simp at h
  | [a], m, j, h => by
    have h : a = m := by simpa using h
    subst h
    show g a j + 0 = 0 + g a j
    omega
  | a :: b :: l, m, j, h => by
    have h' : (b :: l).getLast? = some m := by rw [List.getLast?_cons_cons] at h; exact h
    have ih := cv_snoc (l := b :: l) (j := j) h'
    show g a b + cv g (b :: l ++ [j]) = g a b + cv g (b :: l) + g m j
    rw [ih]; omega
theorem cv_split : ∀ (a : List Nat) (j : Nat) (b : List Nat), cv g (a ++ j :: b) = cv g (a ++ [j]) + cv g (j :: b)
  | [], j, b => by show cv g (j :: b) = 0 + cv g (j :: b); omega
  | [x], j, b => by
    show g x j + cv g (j :: b) = g x j + 0 + cv g (j :: b)
    omega
  | x :: y :: a, j, b => by
    have ih := cv_split (y :: a) j b
    show g x y + cv g (y :: a ++ j :: b) = g x y + cv g (y :: a ++ [j]) + cv g (j :: b)
    rw [ih]; omega
end
/-- l leads from i to j -/
structure Walk (n : Nat) (l : List Nat) (i j : Nat) : Prop where
  hd : l.head? = some i
  la : l.getLast? = some j
  lt : ∀ x ∈ l, x < n
theorem Walk.ne {n : Nat} {l : List Nat} {i j : Nat} (h : Walk n l i j) : l ≠ [] := fun z => by
  have := h.hd
  rw [z] at this
  cases this
theorem Walk.snoc {n : Nat} {l : List Nat} {i m j : Nat} (h : Walk n l i m) (hj : j < n) : Walk n (l ++ [j]) i j := by
  refine ⟨?_, by simp, fun x hx => ?_⟩
  · rw [List.head?_append, h.hd]; rfl
  · rcases List.mem_append.mp hx with z | z
    · exact h.lt x z
    · rw [List.mem_singleton.mp z]; exact hj
theorem Walk.fst {n : Nat} {l : List Nat} {i j : Nat} (h : Walk n l i j) : i < n := h.lt i (List.mem_of_head? h.hd)
theorem Walk.lst {n : Nat} {l : List Nat} {i j : Nat} (h : Walk n l i j) : j < n := h.lt j (List.mem_of_getLast? h.la)
theorem walk_one {n i : Nat} (h : i < n) : Walk n [i] i i := ⟨rfl, rfl, fun x hx => by rw [List.mem_singleton.mp hx]; exact h⟩
theorem getLast_split : ∀ {l : List Nat} {j : Nat}, l.getLast? = some j → ∃ l', l = l' ++ [j]
  | [], j, h => by simp at h
  | [a], j, h => ⟨[], by have : a = j := by simpa using h
                         rw [this]; rfl⟩
  | a :: b :: l, j, h => by
    rw [List.getLast?_cons_cons] at h
    obtain ⟨l', e⟩ := getLast_split h
    exact ⟨a :: l', by rw [e]; rfl⟩
/-- the last step of a walk -/
theorem Walk.back {n : Nat} {l : List Nat} {i j : Nat} (h : Walk n l i j) : (l = [j] ∧ i = j) ∨ ∃ l' m, l = l' ++ [j] ∧ Walk n l' i m := by
  obtain ⟨l', e⟩ := getLast_split h.la
  subst e
  cases hl : l' with
  | nil =>
    subst hl
    have := h.hd
    left
    refine ⟨rfl, ?_⟩
    simpa using this.symm
  | cons a t =>
    right
    have hne : l' ≠ [] := by rw [hl]; exact List.cons_ne_nil _ _
    rw [← hl]
    refine ⟨l', l'.getLast hne, rfl, ?_, List.getLast?_eq_some_getLast hne, fun x hx => h.lt x (List.mem_append.mpr (.inl hx))⟩
    have := h.hd
    rw [List.head?_append] at this
    rw [hl] at this ⊢
    exact this
section
variable {W : List (List Int)} {R : List Nat} {n : Nat}
theorem gn_self (i : Nat) : gn W R i i = 0 := by unfold gn; omega
/-! ### one more lodger -/
theorem best1_ge {row : Nat → Int × List Nat} {j : Nat} : ∀ m, (row j).1 ≤ (best1 W R row j m).1
  | 0 => Int.le_refl _
  | m + 1 => by
    have ih := best1_ge (row := row) (j := j) m
    unfold best1
    split
    · rename_i h; show (row j).1 ≤ (row m).1 + gn W R m j; omega
    · exact ih
theorem best1_all {row : Nat → Int × List Nat} {j : Nat} : ∀ m m', m' < m → (row m').1 + gn W R m' j ≤ (best1 W R row j m).1
  | 0, m', h => absurd h (Nat.not_lt_zero _)
  | m + 1, m', h => by
    unfold best1
    by_cases e : m' = m
    · subst e
      split
      · exact Int.le_refl _
      · rename_i z; omega
    · have ih := best1_all (row := row) (j := j) m m' (by omega)
      split
      · rename_i z; show _ ≤ (row m).1 + gn W R m j; omega
      · exact ih
theorem best1_cases {row : Nat → Int × List Nat} {j : Nat} : ∀ m, best1 W R row j m = row j ∨ ∃ m', m' < m ∧ best1 W R row j m = ((row m').1 + gn W R m' j, (row m').2 ++ [j]) ∧ (row j).1 < (row m').1 + gn W R m' j
  | 0 => .inl rfl
  | m + 1 => by
    have ge := best1_ge (W := W) (R := R) (row := row) (j := j) m
    unfold best1
    split
    · rename_i z
      exact .inr ⟨m, Nat.lt_succ_self m, rfl, by omega⟩
    · rcases best1_cases (row := row) (j := j) m with h | ⟨m', h1, h2, h3⟩
      · exact .inl h
      · exact .inr ⟨m', by omega, h2, h3⟩
/-! ### layers -/
structure Lay (W : List (List Int)) (R : List Nat) (n k : Nat) (w : Wy) : Prop where
  wk : ∀ i j, i < n → j < n → Walk n (w i j).2 i j
  cv : ∀ i j, i < n → j < n → cv (gn W R) (w i j).2 = (w i j).1
  top : ∀ l i j, Walk n l i j → l.length ≤ k + 2 → PD.cv (gn W R) l ≤ (w i j).1
  nd : ∀ i j, i < n → j < n → (w i j).2.Nodup
  dg : ∀ i, i < n → (w i i).1 ≤ 0
  len : ∀ i j, i < n → j < n → (w i j).2.length ≤ k + 2
  low : ∀ i j, i < n → j < n → (w i j).2.length = k + 2 ∨ ∃ l, Walk n l i j ∧ l.length ≤ k + 1 ∧ PD.cv (gn W R) l = (w i j).1
theorem lay0 : Lay W R n 0 (w0 W R) := by
  refine ⟨fun i j hi hj => ?_, fun i j hi hj => ?_, fun l i j h hl => ?_, fun i j hi hj => ?_, fun i hi => ?_, fun i j hi hj => w0_len, fun i j hi hj => ?_⟩
  · unfold w0
    split
    · rename_i e; subst e; exact walk_one hi
    · exact ⟨rfl, rfl, fun x hx => by
        rcases List.mem_cons.mp hx with z | z
        · rw [z]; exact hi
        · rw [List.mem_singleton.mp z]; exact hj⟩
  · unfold w0
    split
    · rfl
    · show gn W R i j + 0 = gn W R i j
      omega
  · match l, h, hl with
    | [a], h, _ =>
      have h1 : a = i := by simpa using h.hd
      have h2 : a = j := by simpa using h.la
      subst h1; subst h2
      unfold w0; rw [if_pos rfl]; exact Int.le_refl _
    | [a, b], h, _ =>
      have h1 : a = i := by simpa using h.hd
      have h2 : b = j := by simpa using h.la
      subst h1; subst h2
      show gn W R a b + 0 ≤ _
      unfold w0
      split
      · rename_i e; subst e; rw [gn_self]; exact Int.le_refl _
      · show _ ≤ gn W R a b; omega
    | [], h, _ => exact absurd rfl h.ne
  · unfold w0
    split
    · simp
    · rename_i h; simp [h]
  · unfold w0; rw [if_pos rfl]; exact Int.le_refl _
  · by_cases e : i = j
    · subst e
      exact .inr ⟨[i], walk_one hi, by simp, by unfold w0; rw [if_pos rfl]; rfl⟩
    · exact .inl (by unfold w0; rw [if_neg e]; rfl)
theorem Lay.topNext {k : Nat} {w : Wy} (L : Lay W R n k w) : ∀ l i j, Walk n l i j → l.length ≤ k + 3 → PD.cv (gn W R) l ≤ (lg W R n w i j).1 := fun l i j h hl => by
  rcases h.back with ⟨rfl, rfl⟩ | ⟨l', m, rfl, h'⟩
  · have h1 := L.top [i] i i h (by simp)
    have h2 := best1_ge (W := W) (R := R) (row := w i) (j := i) n
    exact Int.le_trans h1 h2
  · rw [cv_snoc h'.la]
    have h1 := L.top l' i m h' (by simp at hl; omega)
    have h2 := best1_all (W := W) (R := R) (row := w i) (j := j) n m h'.lst
    exact Int.le_trans (by omega) h2
theorem Lay.next {k : Nat} {w : Wy} (L : Lay W R n k w) (hd : ∀ i, i < n → ¬ 0 < (lg W R n w i i).1) : Lay W R n (k + 1) (lg W R n w) := by
  have top := L.topNext
  refine ⟨fun i j hi hj => ?_, fun i j hi hj => ?_, top, fun i j hi hj => ?_, fun i hi => by have := hd i hi; omega, fun i j hi hj => ?_, fun i j hi hj => ?_⟩
  · rcases best1_cases (W := W) (R := R) (row := w i) (j := j) n with e | ⟨m, hm, e, _⟩
    · show Walk n (best1 W R (w i) j n).2 i j
      rw [e]; exact L.wk i j hi hj
    · show Walk n (best1 W R (w i) j n).2 i j
      rw [e]; exact (L.wk i m hi hm).snoc hj
  · rcases best1_cases (W := W) (R := R) (row := w i) (j := j) n with e | ⟨m, hm, e, _⟩
    · show PD.cv _ (best1 W R (w i) j n).2 = (best1 W R (w i) j n).1
      rw [e]; exact L.cv i j hi hj
    · show PD.cv _ (best1 W R (w i) j n).2 = (best1 W R (w i) j n).1
      rw [e]
      show PD.cv _ ((w i m).2 ++ [j]) = (w i m).1 + gn W R m j
      rw [cv_snoc (L.wk i m hi hm).la, L.cv i m hi hm]
  · rcases best1_cases (W := W) (R := R) (row := w i) (j := j) n with e | ⟨m, hm, e, lt⟩
    · show (best1 W R (w i) j n).2.Nodup
      rw [e]; exact L.nd i j hi hj
    · show (best1 W R (w i) j n).2.Nodup
      rw [e]
      show ((w i m).2 ++ [j]).Nodup
      have wk := L.wk i m hi hm
      have nj : j ∉ (w i m).2 := fun hj2 => by
        obtain ⟨a, b, ep⟩ := List.append_of_mem hj2
        have hcv := L.cv i m hi hm
        have hlen := L.len i m hi hm
        rw [ep] at wk hcv hlen
        rw [cv_split] at hcv
        have pre : Walk n (a ++ [j]) i j := by
          refine ⟨?_, by simp, fun x hx => ?_⟩
          · have := wk.hd
            cases a with
            | nil => simpa using this
            | cons y t => simpa using this
          · rcases List.mem_append.mp hx with z | z
            · exact wk.lt x (List.mem_append.mpr (.inl z))
            · rw [List.mem_singleton.mp z]; exact hj
        have h1 := L.top _ i j pre (by simp at hlen ⊢; omega)
        have la : (j :: b).getLast? = some m := by
          have := wk.la
          rw [List.getLast?_append] at this
          cases hb : (j :: b).getLast? with
          | none => simp at hb
          | some y => rw [hb] at this; simpa using this
        have suf : Walk n (j :: b ++ [j]) j j := by
          refine ⟨rfl, by rw [List.getLast?_append]; rfl, fun x hx => ?_⟩
          rcases List.mem_append.mp hx with z | z
          · exact wk.lt x (List.mem_append.mpr (.inr z))
          · rw [List.mem_singleton.mp z]; exact hj
        have h2 := top _ j j suf (by simp at hlen ⊢; omega)
        rw [cv_snoc la] at h2
        have h3 := hd j hj
        omega
      rw [List.nodup_append]
      refine ⟨L.nd i m hi hm, by simp, fun x hx y hy z => ?_⟩
      rw [List.mem_singleton.mp hy] at z
      subst z
      exact nj hx
  · rcases best1_cases (W := W) (R := R) (row := w i) (j := j) n with e | ⟨m, hm, e, lt⟩
    · show (best1 W R (w i) j n).2.length ≤ _
      rw [e]; have := L.len i j hi hj; omega
    · show (best1 W R (w i) j n).2.length ≤ _
      rw [e]
      show ((w i m).2 ++ [j]).length ≤ _
      have := L.len i m hi hm
      simp; omega
  · show (best1 W R (w i) j n).2.length = _ ∨ ∃ l, _ ∧ _ ∧ _ = (best1 W R (w i) j n).1
    rcases best1_cases (W := W) (R := R) (row := w i) (j := j) n with e | ⟨m, hm, e, lt⟩
    · rw [e]
      exact .inr ⟨_, L.wk i j hi hj, L.len i j hi hj, L.cv i j hi hj⟩
    · rw [e]
      rcases L.low i m hi hm with h | ⟨l, h1, h2, h3⟩
      · left
        show ((w i m).2 ++ [j]).length = _
        simp [h]
      · exfalso
        have := L.top (l ++ [j]) i j (h1.snoc hj) (by simp; omega)
        rw [cv_snoc h1.la] at this
        omega
/-! ### no better ring -/
structure Calm (W : List (List Int)) (R : List Nat) (n : Nat) (w : Wy) : Prop where
  wk : ∀ i j, i < n → j < n → Walk n (w i j).2 i j
  cv : ∀ i j, i < n → j < n → cv (gn W R) (w i j).2 = (w i j).1
  nd : ∀ i j, i < n → j < n → (w i j).2.Nodup
  dg : ∀ i, i < n → (w i i).1 = 0
  cl : ∀ i m j, i < n → m < n → j < n → (w i m).1 + gn W R m j ≤ (w i j).1
theorem Lay.dg0 {k : Nat} {w : Wy} (L : Lay W R n k w) {i : Nat} (hi : i < n) : (w i i).1 = 0 := by
  have h1 := L.dg i hi
  have h2 := L.top [i] i i (walk_one hi) (by simp)
  have h3 : PD.cv (gn W R) [i] = 0 := rfl
  omega
/-- a ring that is turned with gain -/
def rg (W : List (List Int)) (R Q : List Nat) : Int := ((List.range Q.length).map fun p => gn W R (Q.getD p 0) (Q.getD ((p + 1) % Q.length) 0)).sum
theorem cv_sum (g : Nat → Nat → Int) : ∀ l : List Nat, cv g l = ((List.range (l.length - 1)).map fun p => g (l.getD p 0) (l.getD (p + 1) 0)).sum
  | [] => rfl
  | [a] => rfl
  | a :: b :: l => by
    have ih := cv_sum g (b :: l)
    show g a b + cv g (b :: l) = _
    rw [ih]
    have e : (a :: b :: l).length - 1 = ((b :: l).length - 1) + 1 := by simp
    rw [e, List.range_succ_eq_map, List.map_cons, List.map_map, List.sum_cons]
    congr 1
theorem rg_cv {Q : List Nat} {i : Nat} (hi : Q.head? = some i) : rg W R Q = cv (gn W R) (Q ++ [i]) := by
  rw [cv_sum]
  unfold rg
  have e : (Q ++ [i]).length - 1 = Q.length := by simp
  rw [e]
  congr 1
  refine List.map_congr_left fun p hp => ?_
  have hp : p < Q.length := by simpa using hp
  have e1 : (Q ++ [i]).getD p 0 = Q.getD p 0 := by
    rw [List.getD_eq_getElem?_getD, List.getD_eq_getElem?_getD, List.getElem?_append_left hp]
  have e2 : (Q ++ [i]).getD (p + 1) 0 = Q.getD ((p + 1) % Q.length) 0 := by
    by_cases z : p + 1 = Q.length
    · rw [z, Nat.mod_self, List.getD_eq_getElem?_getD, List.getD_eq_getElem?_getD, List.getElem?_append_right (Nat.le_refl _), Nat.sub_self]
      rw [List.head?_eq_getElem?] at hi
      rw [hi]; rfl
    · rw [Nat.mod_eq_of_lt (by omega), List.getD_eq_getElem?_getD, List.getD_eq_getElem?_getD, List.getElem?_append_left (by omega)]
  rw [e1, e2]
theorem ringL_some {w : Wy} {r : List Nat} : ∀ {is : List Nat}, ringL w is = some r → ∃ i ∈ is, 0 < (w i i).1 ∧ r = (w i i).2.dropLast
  | [], h => by cases h
  | i :: is, h => by
    unfold ringL at h
    split at h
    · rename_i z
      cases h
      exact ⟨i, List.mem_cons_self, z, rfl⟩
    · obtain ⟨j, hj, z⟩ := ringL_some h
      exact ⟨j, List.mem_cons_of_mem _ hj, z⟩
theorem ringL_none {w : Wy} : ∀ {is : List Nat}, ringL w is = none → ∀ i ∈ is, ¬ 0 < (w i i).1
  | [], _, i, hi => absurd hi List.not_mem_nil
  | j :: is, h, i, hi => by
    unfold ringL at h
    split at h
    · cases h
    · rename_i z
      rcases List.mem_cons.mp hi with e | e
      · rw [e]; exact z
      · exact ringL_none h i e
theorem Lay.ring {k : Nat} {w : Wy} (L : Lay W R n k w) {r : List Nat} (h : ringIn n (lg W R n w) = some r) : Ring r n ∧ 0 < rg W R r := by
  obtain ⟨i, hi, hp, rfl⟩ := ringL_some h
  have hi : i < n := by simpa using hi
  have d0 := L.dg0 hi
  rcases best1_cases (W := W) (R := R) (row := w i) (j := i) n with e | ⟨m, hm, e, lt⟩
  · exfalso
    have : (lg W R n w i i).1 = (w i i).1 := by show (best1 W R (w i) i n).1 = _; rw [e]
    omega
  · have e2 : lg W R n w i i = ((w i m).1 + gn W R m i, (w i m).2 ++ [i]) := e
    rw [e2] at hp ⊢
    have hp : 0 < (w i m).1 + gn W R m i := hp
    show Ring ((w i m).2 ++ [i]).dropLast n ∧ 0 < rg W R ((w i m).2 ++ [i]).dropLast
    rw [List.dropLast_concat]
    have wk := L.wk i m hi hm
    refine ⟨⟨wk.lt, L.nd i m hi hm, ?_⟩, ?_⟩
    · have nm : m ≠ i := fun z => by
        subst z
        rw [gn_self] at hp
        omega
      have h1 := wk.hd
      have h2 := wk.la
      match hl : (w i m).2, h1, h2 with
      | [a], h1, h2 =>
        have e1 : a = i := by simpa using h1
        have e2 : a = m := by simpa using h2
        exact absurd (e2.symm.trans e1) nm
      | a :: b :: t, _, _ => simp
    · rw [rg_cv wk.hd, cv_snoc wk.la, L.cv i m hi hm]
      exact hp
/-! ### the same ways -/
theorem eqvAll_map {α : Type} {f h : α → PyData} : ∀ {xs : List α}, PyData.eqvAll (xs.map f) (xs.map h) = true → ∀ x ∈ xs, PyData.eqv (f x) (h x) = true
  | [], _, x, hx => absurd hx List.not_mem_nil
  | y :: ys, e, x, hx => by
    have e' : PyData.eqv (f y) (h y) = true ∧ PyData.eqvAll (ys.map f) (ys.map h) = true := by
      rw [List.map_cons, List.map_cons, PyData.eqvAll] at e
      simpa using e
    rcases List.mem_cons.mp hx with z | z
    · rw [z]; exact e'.1
    · exact eqvAll_map e'.2 x z
theorem sameW_val {f w : Wy} (h : sameW n f w = true) {i j : Nat} (hi : i < n) (hj : j < n) : (f i j).1 = (w i j).1 := by
  unfold sameW wyD at h
  rw [PyData.eqv] at h
  have h1 := eqvAll_map h i (by simpa using hi)
  unfold rowD at h1
  rw [PyData.eqv] at h1
  have h2 := eqvAll_map h1 j (by simpa using hj)
  rw [wpD, wpD, PyData.eqv, PyData.eqvAll, PyData.eqv] at h2
  simp at h2
  exact h2.1
theorem Lay.calm {k : Nat} {w : Wy} (L : Lay W R n k w) (cl : ∀ i m j, i < n → m < n → j < n → (w i m).1 + gn W R m j ≤ (w i j).1) : Calm W R n w :=
  ⟨L.wk, L.cv, L.nd, fun i hi => L.dg0 hi, cl⟩
theorem bwGo_spec : ∀ (k m : Nat) (w : Wy), m + k = n → Lay W R n m w → match bwGo W R n k w with
    | (some r, _) => Ring r n ∧ 0 < rg W R r
    | (none, w') => Calm W R n w'
  | 0, m, w, e, L => by
    show Calm W R n w
    refine L.calm fun i a j hi ha hj => ?_
    rcases L.low i a hi ha with h | ⟨l, h1, h2, h3⟩
    · have := nodup_le (L.wk i a hi ha).lt (L.nd i a hi ha)
      omega
    · have := L.top (l ++ [j]) i j (h1.snoc hj) (by simp; omega)
      rw [cv_snoc h1.la] at this
      omega
  | k + 1, m, w, e, L => by
    unfold bwGo
    cases hr : ringIn n (lg W R n w) with
    | some r => exact L.ring hr
    | none =>
      by_cases hs : sameW n (lg W R n w) w = true
      · show match (if sameW n (lg W R n w) w = true then ((none : Option (List Nat)), w) else bwGo W R n k (lg W R n w)) with
          | (some r, _) => Ring r n ∧ 0 < rg W R r
          | (none, w') => Calm W R n w'
        rw [if_pos hs]
        refine L.calm fun i a j hi ha hj => ?_
        have h1 := best1_all (W := W) (R := R) (row := w i) (j := j) n a ha
        have h2 : (best1 W R (w i) j n).1 = (w i j).1 := sameW_val hs hi hj
        omega
      · show match (if sameW n (lg W R n w) w = true then ((none : Option (List Nat)), w) else bwGo W R n k (lg W R n w)) with
          | (some r, _) => Ring r n ∧ 0 < rg W R r
          | (none, w') => Calm W R n w'
        rw [if_neg hs]
        exact bwGo_spec k (m + 1) _ (by omega) (L.next fun i hi => ringL_none hr i (by simpa using hi))
theorem bw_spec : match bw W R n with
    | (some r, _) => Ring r n ∧ 0 < rg W R r
    | (none, w') => Calm W R n w' := bwGo_spec n 0 _ (by omega) lay0
theorem bw_ring {r : List Nat} (h : (bw W R n).1 = some r) : Ring r n ∧ 0 < rg W R r := by
  have := bw_spec (W := W) (R := R) (n := n)
  cases e : bw W R n with
  | mk a b =>
    rw [e] at this h
    have h : a = some r := h
    subst h
    exact this
theorem bw_calm (h : (bw W R n).1 = none) : Calm W R n (bw W R n).2 := by
  have := bw_spec (W := W) (R := R) (n := n)
  cases e : bw W R n with
  | mk a b =>
    rw [e] at this h
    have h : a = none := h
    subst h
    exact this
/-! ### a ring is turned -/
theorem sum_set {f : Nat → Nat → Int} : ∀ {S : List Nat} {i v : Nat}, i < S.length →
    ((List.range S.length).map fun k => f k ((S.set i v).getD k 0)).sum = ((List.range S.length).map fun k => f k (S.getD k 0)).sum + f i v - f i (S.getD i 0)
  | [], i, v, h => absurd h (Nat.not_lt_zero _)
  | s :: S, 0, v, h => by
    rw [List.length_cons, List.range_succ_eq_map, List.map_cons, List.map_cons, List.map_map, List.map_map, List.sum_cons, List.sum_cons]
    show f 0 v + ((List.range S.length).map fun k => f (k + 1) (S.getD k 0)).sum = f 0 s + ((List.range S.length).map fun k => f (k + 1) (S.getD k 0)).sum + f 0 v - f 0 s
    omega
  | s :: S, i + 1, v, h => by
    have ih := sum_set (f := fun k => f (k + 1)) (S := S) (i := i) (v := v) (by simpa using h)
    rw [List.length_cons, List.range_succ_eq_map, List.map_cons, List.map_cons, List.map_map, List.map_map, List.sum_cons, List.sum_cons]
    show f 0 s + ((List.range S.length).map fun k => f (k + 1) ((S.set i v).getD k 0)).sum = f 0 s + ((List.range S.length).map fun k => f (k + 1) (S.getD k 0)).sum + f (i + 1) v - f (i + 1) (S.getD i 0)
    omega
theorem tot_set {S : List Nat} {i v : Nat} (h : i < S.length) : tot W (S.set i v) = tot W S + cell W i v - cell W i (S.getD i 0) := by
  unfold tot
  rw [List.length_set]
  exact sum_set (f := fun k r => cell W k r) h
theorem getD_set_ne {S : List Nat} {i x v : Nat} (h : i ≠ x) : (S.set i v).getD x 0 = S.getD x 0 := by
  rw [List.getD_eq_getElem?_getD, List.getD_eq_getElem?_getD, List.getElem?_set_ne h]
theorem getD_set_self {S : List Nat} {i v : Nat} (h : i < S.length) : (S.set i v).getD i 0 = v := by
  rw [List.getD_eq_getElem?_getD, List.getElem?_set_self h]; rfl
theorem turnGo_off {Q : List Nat} {x : Nat} : ∀ {k : Nat}, (∀ p, p < k → Q.getD p 0 ≠ x) → (turnGo R Q k).getD x 0 = R.getD x 0
  | 0, _ => rfl
  | k + 1, h => by
    unfold turnGo
    rw [getD_set_ne (h k (Nat.lt_succ_self k))]
    exact turnGo_off fun p hp => h p (by omega)
theorem getD_inj {Q : List Nat} {p p' : Nat} (nd : Q.Nodup) (h : p < Q.length) (h' : p' < Q.length) (e : Q.getD p 0 = Q.getD p' 0) : p = p' := by
  rw [List.getD_eq_getElem?_getD, List.getD_eq_getElem?_getD, List.getElem?_eq_getElem h, List.getElem?_eq_getElem h'] at e
  exact (List.getElem_inj nd).mp e
theorem turnGo_on {Q : List Nat} (g : Ring Q n) (hR : R.length = n) : ∀ {k : Nat}, k ≤ Q.length → ∀ p, p < k → (turnGo R Q k).getD (Q.getD p 0) 0 = R.getD (Q.getD ((p + 1) % Q.length) 0) 0
  | 0, _, p, hp => absurd hp (Nat.not_lt_zero _)
  | k + 1, hk, p, hp => by
    unfold turnGo
    by_cases e : p = k
    · subst e
      rw [getD_set_self (by rw [turnGo_len, hR]; exact g.lt _ (getD_mem (by omega)))]
    · rw [getD_set_ne (fun z => e (getD_inj g.nd (by omega) (by omega) z).symm)]
      exact turnGo_on g hR (by omega) p (by omega)
theorem turn_on {Q : List Nat} (g : Ring Q n) (hR : R.length = n) {p : Nat} (hp : p < Q.length) : (turn R Q).getD (Q.getD p 0) 0 = R.getD (Q.getD ((p + 1) % Q.length) 0) 0 := turnGo_on g hR (Nat.le_refl _) p hp
theorem mem_getD {Q : List Nat} {x : Nat} (h : x ∈ Q) : ∃ p, p < Q.length ∧ Q.getD p 0 = x := by
  obtain ⟨p, hp, e⟩ := List.mem_iff_getElem.mp h
  exact ⟨p, hp, by rw [List.getD_eq_getElem?_getD, List.getElem?_eq_getElem hp]; exact e⟩
theorem turn_off {Q : List Nat} {x : Nat} (h : x ∉ Q) : (turn R Q).getD x 0 = R.getD x 0 := turnGo_off fun p hp z => h (z ▸ getD_mem hp)
theorem tot_turnGo {Q : List Nat} (g : Ring Q n) (hR : R.length = n) : ∀ {k : Nat}, k ≤ Q.length → tot W (turnGo R Q k) = tot W R + ((List.range k).map fun p => gn W R (Q.getD p 0) (Q.getD ((p + 1) % Q.length) 0)).sum
  | 0, _ => by show tot W R = tot W R + 0; omega
  | k + 1, hk => by
    have ih := tot_turnGo g hR (k := k) (by omega)
    unfold turnGo
    rw [tot_set (by rw [turnGo_len, hR]; exact g.lt _ (getD_mem (by omega))), ih, List.range_succ, List.map_append, List.sum_append]
    rw [turnGo_off fun p hp z => absurd (getD_inj g.nd (by omega) (by omega) z) (by omega)]
    simp only [List.map_cons, List.map_nil, List.sum_cons, List.sum_nil]
    unfold gn
    omega
theorem tot_turn {Q : List Nat} (g : Ring Q n) (hR : R.length = n) : tot W (turn R Q) = tot W R + rg W R Q := tot_turnGo g hR (Nat.le_refl _)
theorem turn_len {Q : List Nat} : (turn R Q).length = R.length := turnGo_len R Q _
theorem turn_from {Q : List Nat} (g : Ring Q n) (hR : R.length = n) {x : Nat} (hx : x < n) : ∃ s, s < n ∧ (turn R Q).getD x 0 = R.getD s 0 ∧ ((∃ p, p < Q.length ∧ x = Q.getD p 0 ∧ s = Q.getD ((p + 1) % Q.length) 0) ∨ (x ∉ Q ∧ s = x)) := by
  by_cases hm : x ∈ Q
  · obtain ⟨p, hp, rfl⟩ := mem_getD hm
    have hq : (p + 1) % Q.length < Q.length := Nat.mod_lt _ (by omega)
    exact ⟨_, g.lt _ (getD_mem hq), turn_on g hR hp, .inl ⟨p, hp, rfl, rfl⟩⟩
  · exact ⟨x, hx, turn_off hm, .inr ⟨hm, rfl⟩⟩
theorem mod_next {p p' L : Nat} (h : p < L) (h' : p' < L) (e : (p + 1) % L = (p' + 1) % L) : p = p' := by
  by_cases z : p + 1 = L
  · rw [z, Nat.mod_self] at e
    by_cases z' : p' + 1 = L
    · omega
    · rw [Nat.mod_eq_of_lt (by omega)] at e; omega
  · rw [Nat.mod_eq_of_lt (by omega)] at e
    by_cases z' : p' + 1 = L
    · rw [z', Nat.mod_self] at e; omega
    · rw [Nat.mod_eq_of_lt (by omega)] at e; omega
theorem turn_rms {Q : List Nat} (g : Ring Q n) (q : Rms R n) : Rms (turn R Q) n := by
  have len : (turn R Q).length = n := turn_len.trans q.len
  have at_ : ∀ {x : Nat} (h : x < (turn R Q).length), (turn R Q)[x] = (turn R Q).getD x 0 := fun {x} h => by
    rw [List.getD_eq_getElem?_getD, List.getElem?_eq_getElem h]; rfl
  refine ⟨len, fun r hr => ?_, ?_⟩
  · obtain ⟨x, hx, rfl⟩ := mem_getD hr
    obtain ⟨s, hs, e, _⟩ := turn_from g q.len (by rw [len] at hx; exact hx)
    rw [e]
    exact q.at_lt hs
  · rw [List.nodup_iff_pairwise_ne, List.pairwise_iff_getElem]
    intro x y hx hy lt e
    rw [at_, at_] at e
    rw [len] at hx hy
    obtain ⟨s, hs, e1, c1⟩ := turn_from g q.len hx
    obtain ⟨s', hs', e2, c2⟩ := turn_from g q.len hy
    rw [e1, e2] at e
    have es := getD_inj q.nd (by rw [q.len]; exact hs) (by rw [q.len]; exact hs') e
    subst es
    rcases c1 with ⟨p, hp, rfl, z⟩ | ⟨hm, rfl⟩
    · rcases c2 with ⟨p', hp', rfl, z'⟩ | ⟨hm', rfl⟩
      · have hq : (p + 1) % Q.length < Q.length := Nat.mod_lt _ (by omega)
        have hq' : (p' + 1) % Q.length < Q.length := Nat.mod_lt _ (by omega)
        have := mod_next hp hp' (getD_inj g.nd hq hq' (z.symm.trans z'))
        subst this
        omega
      · refine hm' ?_
        rw [z]
        exact getD_mem (Nat.mod_lt _ (by omega))
    · rcases c2 with ⟨p', hp', rfl, z'⟩ | ⟨hm', rfl⟩
      · refine hm ?_
        rw [z']
        exact getD_mem (Nat.mod_lt _ (by omega))
      · omega
/-! ### settled -/
def SetN (W : List (List Int)) (n : Nat) : Nat → List Nat → List Nat → Prop
  | 0, R, R' => (bw W R n).1 = none ∧ R = R'
  | k + 1, R, R' => ∃ r, (bw W R n).1 = some r ∧ SetN W n k (turn R r) R'
theorem sum_le {f : Nat → Int} {B : Int} : ∀ {l : List Nat}, (∀ x ∈ l, f x ≤ B) → (l.map f).sum ≤ (l.length : Int) * B
  | [], _ => by simp
  | a :: l, h => by
    have h1 := h a List.mem_cons_self
    have ih := sum_le (f := f) (l := l) fun x hx => h x (List.mem_cons_of_mem _ hx)
    rw [List.map_cons, List.sum_cons, List.length_cons]
    have : ((l.length + 1 : Nat) : Int) * B = (l.length : Int) * B + B := by push_cast; rw [Int.add_mul]; omega
    omega
theorem cell_le {i k : Nat} (t : Tab W n) (hi : i < n) (hk : k < n) : 0 ≤ cell W i k ∧ cell W i k ≤ 1000000 :=
  t.coin _ (getD_mem (by rw [t.len]; exact hi)) _ (getD_mem (by rw [t.row_len hi]; exact hk))
theorem tot_le (t : Tab W n) (q : Rms R n) : tot W R ≤ 8000000 := by
  unfold tot
  have := sum_le (f := fun i => cell W i (R.getD i 0)) (B := 1000000) (l := List.range R.length) fun x hx => by
    have hx : x < n := by rw [q.len] at hx; simpa using hx
    exact (cell_le t hx (q.at_lt hx)).2
  rw [List.length_range, q.len] at this
  rw [q.len]
  have := t.hi
  omega
theorem settles (t : Tab W n) : ∀ (m : Nat) (R : List Nat), Rms R n → 8000000 - tot W R ≤ (m : Int) → ∃ k R', SetN W n k R R'
  | m, R, q, h => by
    cases e : (bw W R n).1 with
    | none => exact ⟨0, R, e, rfl⟩
    | some r =>
      obtain ⟨g, hp⟩ := bw_ring e
      have q' := turn_rms g q
      have ht := tot_turn (W := W) g q.len
      have hl := tot_le t q'
      match m, h with
      | 0, h => omega
      | m + 1, h =>
        obtain ⟨k, R', hs⟩ := settles t m (turn R r) q' (by push_cast at h; omega)
        exact ⟨k + 1, R', r, e, hs⟩
theorem settles_ex (t : Tab W n) (q : Rms R n) : ∃ k R', SetN W n k R R' := settles t (8000000 - tot W R).toNat R q (by omega)
theorem setN_rms : ∀ {k : Nat} {R R' : List Nat}, SetN W n k R R' → Rms R n → Rms R' n
  | 0, R, R', h, q => h.2 ▸ q
  | k + 1, R, R', ⟨r, e, h⟩, q => setN_rms h (turn_rms (bw_ring e).1 q)
theorem setN_end : ∀ {k : Nat} {R R' : List Nat}, SetN W n k R R' → (bw W R' n).1 = none
  | 0, R, R', h => h.2 ▸ h.1
  | k + 1, R, R', ⟨r, e, h⟩ => setN_end h
theorem setN_tot : ∀ {k : Nat} {R R' : List Nat}, SetN W n k R R' → Rms R n → tot W R ≤ tot W R'
  | 0, R, R', h, q => by rw [h.2]; exact Int.le_refl _
  | k + 1, R, R', ⟨r, e, h⟩, q => by
    obtain ⟨g, hp⟩ := bw_ring e
    have h1 := setN_tot h (turn_rms g q)
    have h2 := tot_turn (W := W) g q.len
    omega
theorem setN_fun : ∀ {k k' : Nat} {R R1 R2 : List Nat}, SetN W n k R R1 → SetN W n k' R R2 → R1 = R2
  | 0, 0, R, R1, R2, h, h' => h.2.symm.trans h'.2
  | 0, k' + 1, R, R1, R2, h, ⟨r, e, _⟩ => by rw [h.1] at e; cases e
  | k + 1, 0, R, R1, R2, ⟨r, e, _⟩, h' => by rw [h'.1] at e; cases e
  | k + 1, k' + 1, R, R1, R2, ⟨r, e, h⟩, ⟨r', e', h'⟩ => by
    rw [e] at e'
    cases e'
    exact setN_fun h h'
end
end PD

set_option Elab.async false
set_option linter.all false
set_option maxRecDepth 100000
set_option maxHeartbeats 1000000
/-! settled, best, better, and roomshare/fair.py. -/
namespace PD
open PySem L2
section
variable {K : PySem.W.Frag} {c : CA} {E : XK} {Γ : Env} {P : Out → Prop} {ta tb te t0 t1 : TE} {ds : List PyData} {r : Res}
/-! ### what is refused first -/
theorem xa_rooms {w d : PyData} {C : Addr} (h0 : EvD K t0 Γ w) (h1 : EvD K t1 Γ d) (hw : okT w) (hd : okR d) (he : needRooms c w d = .er C) : EvX K E (tCall (spOf K (S_need_rooms c)) [] E (tCons t0 (tCons t1 tNil))) Γ C :=
  ex_call (ea_cons h0 (ea_cons h1 ea_nil)) ⟨w, d, rfl, hw, hd, he.symm⟩
theorem ea_two {d e : PyData} (h0 : EvD K t0 Γ d) (h1 : EvD K t1 Γ e) : EvA K (tCons t0 (tCons t1 tNil)) Γ [d, e] := ea_cons h0 (ea_cons h1 ea_nil)
theorem len2 {w d : PyData} {rest : List PyData} (h : (w :: d :: rest).length = 2) : rest = [] := List.length_eq_zero_iff.mp (by simpa using h)
theorem ev_total {W : List (List Int)} {R : List Nat} {n : Nat} (t : Tab W n) (q : Rms R n) (h0 : EvD K t0 Γ (PD.tb W)) (h1 : EvD K t1 Γ (ln R)) : EvD K (tCall (spOf K (S_total c)) [] E (tCons t0 (tCons t1 tNil))) Γ (.int (tot W R)) :=
  ev_call (ea_two h0 h1) (.inl ⟨W, R, n, t, q, rfl, rfl⟩)
/-! ### better -/
def S_better (c : CA) (ds : List PyData) (r : Res) : Prop :=
  (∃ (W : List (List Int)) (R : List Nat) (n : Nat), Tab W n ∧ Rms R n ∧ ds = [PD.tb W, ln R] ∧ r = .ok (ringD (bw W R n).1)) ∨ (ds.length = 2 ∧ S_ahead c ds r)
abbrev t_better (K : PySem.W.Frag) (c : CA) (E : XK) : TS :=
  (tSeq (tDrop (tCall (spOf K (S_need_rooms c)) [] E (tCons (tVar 0) (tCons (tVar 1) tNil))))
    (tRet (tOp (rIx K) (tCall (spOf K (S_best_ways c)) [] E (tCons (tVar 0) (tCons (tVar 1) tNil))) (tC (.int 0)))))
abbrev N_better : List Str := ["wishes", "rooms"]
theorem ev_bw0 {W : List (List Int)} {R : List Nat} {n : Nat} (t : Tab W n) (q : Rms R n) (h0 : EvD K t0 Γ (PD.tb W)) (h1 : EvD K t1 Γ (ln R)) : EvD K (tOp (rIx K) (tCall (spOf K (S_best_ways c)) [] E (tCons t0 (tCons t1 tNil))) (tC (.int 0))) Γ (ringD (bw W R n).1) :=
  ev_ixT (ev_call (ea_two h0 h1) ⟨W, R, n, t, q, rfl, rfl⟩) ev_int rfl
theorem ht_better (h : S_better c ds r) : HT K E (t_better K c E) (env0 N_better ds) (Post r) := by
  rcases h with ⟨W, R, n, t, q, rfl, rfl⟩ | ⟨hl, w, d, rest, C, rfl, hw, hd, he, rfl⟩
  · show HT K E _ [.da (PD.tb W), .da (ln R)] _
    refine ht_seq (ht_drop (ev_call (ea_two (ev_var rfl) (ev_var rfl)) (q.need t)) ?_)
    exact ht_ret (ev_bw0 t q (ev_var rfl) (ev_var rfl)) rfl
  · have := len2 hl
    subst this
    show HT K E _ [.da w, .da d] _
    exact ht_seq (ht_dropX (xa_rooms (ev_var rfl) (ev_var rfl) hw hd he) rfl)
theorem ev_better {W : List (List Int)} {R : List Nat} {n : Nat} (t : Tab W n) (q : Rms R n) (h0 : EvD K t0 Γ (PD.tb W)) (h1 : EvD K t1 Γ (ln R)) : EvD K (tCall (spOf K (S_better c)) [] E (tCons t0 (tCons t1 tNil))) Γ (ringD (bw W R n).1) :=
  ev_call (ea_two h0 h1) (.inl ⟨W, R, n, t, q, rfl, rfl⟩)
/-! ### settled, best -/
def S_settled (c : CA) (ds : List PyData) (r : Res) : Prop :=
  (∃ (W : List (List Int)) (R R' : List Nat) (n k : Nat), Tab W n ∧ Rms R n ∧ SetN W n k R R' ∧ ds = [PD.tb W, ln R] ∧ r = .own (lnL R')) ∨ (ds.length = 2 ∧ S_ahead c ds r)
abbrev t_settled (K : PySem.W.Frag) (c : CA) (E : XK) : TS :=
  (tSeq (tDrop (tCall (spOf K (S_need_rooms c)) [] E (tCons (tVar 0) (tCons (tVar 1) tNil))))
    (tSeq (tAsg (tCB (rListV K) (tCons (tVar 1) tNil)) (gName 2))
    (tSeq (tAsg (tOp (rIx K) (tCall (spOf K (S_best_ways c)) [] E (tCons (tVar 0) (tCons (tVar 2) tNil))) (tC (.int 0))) (gName 3))
    (tSeq (tWhile (tTest (tOp rNotN (tVar 3) (tC .non))) (tSeq (tAsg (tCall (spOf K (S_turned c)) [] E (tCons (tVar 2) (tCons (tVar 3) tNil))) (gName 2))
    (tAsg (tOp (rIx K) (tCall (spOf K (S_best_ways c)) [] E (tCons (tVar 0) (tCons (tVar 2) tNil))) (tC (.int 0))) (gName 3))))
    (tRet (tVar 2))))))
abbrev N_settled : List Str := ["wishes", "rooms", "found", "ring"]
theorem ht_settled (h : S_settled c ds r) : HT K E (t_settled K c E) (env0 N_settled ds) (Post r) := by
  rcases h with ⟨W, R, R', n, k, t, q, hs, rfl, rfl⟩ | ⟨hl, w, d, rest, C, rfl, hw, hd, he, rfl⟩
  · show HT K E _ [.da (PD.tb W), .da (ln R), .no, .no] _
    have n8 := t.hi
    have n1 := t.lo
    refine ht_seq (ht_drop (ev_call (ea_two (ev_var rfl) (ev_var rfl)) (q.need t)) ?_)
    refine ht_seq (ht_asgO (eo_list (ev_var rfl)) ?_)
    -- the test behind each turn: the rooms stay the slot's own where no ring is told
    let I : Nat → Env → Prop := fun m Γ' => (m = 0 ∧ Γ' = [.da (PD.tb W), .da (ln R), .ow (lnL R'), .da .none]) ∨ ∃ (R1 Q : List Nat), Rms R1 n ∧ (bw W R1 n).1 = some Q ∧ SetN W n m R1 R' ∧ Γ' = [.da (PD.tb W), .da (ln R), .da (ln R1), .da (ln Q)]
    have ask : ∀ (m : Nat) (R1 : List Nat) (s : Sl) (P' : Out → Prop), Rms R1 n → SetN W n m R1 R' → (∀ Γ', I m Γ' → P' (.nx Γ')) →
        HT K E (tAsg (tOp (rIx K) (tCall (spOf K (S_best_ways c)) [] E (tCons (tVar 0) (tCons (tVar 2) tNil))) (tC (.int 0))) (gName 3)) [.da (PD.tb W), .da (ln R), .ow (lnL R1), s] P' := fun m R1 s P' q1 hs1 hP => by
      cases e : (bw W R1 n).1 with
      | none =>
        have em : m = 0 ∧ R1 = R' := by
          cases m with
          | zero => exact ⟨rfl, hs1.2⟩
          | succ m => obtain ⟨Q, e', _⟩ := hs1; rw [e] at e'; cases e'
        obtain ⟨rfl, rfl⟩ := em
        refine ht_asg (d := .none) (ev_frz (evd_eq (ev_bw0 t q1 (ev_var rfl) (ev_var rfl)) (by rw [e]; rfl))) (hP _ (.inl ⟨rfl, rfl⟩))
      | some Q =>
        refine ht_frz (i := 2) rfl (ht_asg (d := ln Q) (evd_eq (ev_bw0 t q1 (ev_var rfl) (ev_var rfl)) (by rw [e]; rfl)) (hP _ (.inr ⟨R1, Q, q1, e, hs1, rfl⟩)))
    refine ht_seq (ask k R _ _ q hs fun Γ' hI => ?_)
    refine ht_seq (ht_while (m0 := k) I hI fun m Γ'' hI2 => ?_)
    rcases hI2 with ⟨rfl, rfl⟩ | ⟨R1, Q, q1, e, hs1, rfl⟩
    · refine ⟨false, et_frz (et_test (ev_notN (d := .none) (ev_var rfl))), fun z => (nomatch z), fun _ => ?_⟩
      exact ht_retS rfl rfl
    · refine ⟨true, et_test (ev_notN (d := ln Q) (ev_var rfl)), fun _ => ?_, fun z => (nomatch z)⟩
      obtain ⟨g, _⟩ := bw_ring e
      refine ht_seq (ht_asgO (eo_call (ea_two (ev_var rfl) (ev_var rfl)) (.inl ⟨R1, Q, n, q1, n1, n8, g, rfl, rfl⟩)) ?_)
      cases m with
      | zero => rw [hs1.1] at e; cases e
      | succ m =>
        obtain ⟨Q', e', hs2⟩ := hs1
        rw [e] at e'
        cases e'
        exact ask m (turn R1 Q) _ _ (turn_rms g q1) hs2 fun Γ' hI => ⟨m, Nat.lt_succ_self m, hI⟩
  · have := len2 hl
    subst this
    show HT K E _ [.da w, .da d, .no, .no] _
    exact ht_seq (ht_dropX (xa_rooms (ev_var rfl) (ev_var rfl) hw hd he) rfl)
theorem eo_settled {W : List (List Int)} {R R' : List Nat} {n k : Nat} (t : Tab W n) (q : Rms R n) (hs : SetN W n k R R') (h0 : EvD K t0 Γ (PD.tb W)) (h1 : EvD K t1 Γ (ln R)) : EvO K (tCall (spOf K (S_settled c)) [] E (tCons t0 (tCons t1 tNil))) Γ (lnL R') :=
  eo_call (ea_two h0 h1) (.inl ⟨W, R, R', n, k, t, q, hs, rfl, rfl⟩)
def S_best (c : CA) (ds : List PyData) (r : Res) : Prop :=
  (∃ (W : List (List Int)) (R' : List Nat) (n k : Nat), Tab W n ∧ SetN W n k (List.range n) R' ∧ ds = [PD.tb W] ∧ r = .own (lnL R')) ∨ (∃ d, ds = [d] ∧ okT d ∧ isTab d = false ∧ r = .er c.bt)
abbrev t_best (K : PySem.W.Frag) (c : CA) (E : XK) : TS :=
  (tSeq (tDrop (tCall (spOf K (S_need_table c)) [] E (tCons (tVar 0) tNil)))
    (tRet (tCall (spOf K (S_settled c)) [] E (tCons (tVar 0) (tCons (tLstRg (tRg1 (tCB (rLenV K) (tCons (tVar 0) tNil)))) tNil)))))
abbrev N_best : List Str := ["wishes"]
theorem rms_range (n : Nat) : Rms (List.range n) n := ⟨by simp, fun r hr => by simpa using hr, List.nodup_range⟩
theorem xa_table {d : PyData} (h0 : EvD K t0 Γ d) (hd : okT d) (hk : isTab d = false) : EvX K E (tCall (spOf K (S_need_table c)) [] E (tCons t0 tNil)) Γ c.bt :=
  ex_call (ea_cons h0 ea_nil) ⟨d, rfl, hd, by unfold needTable; rw [hk]; rfl⟩
theorem ht_best (h : S_best c ds r) : HT K E (t_best K c E) (env0 N_best ds) (Post r) := by
  rcases h with ⟨W, R', n, k, t, hs, rfl, rfl⟩ | ⟨d, rfl, hd, hk, rfl⟩
  · show HT K E _ [.da (PD.tb W)] _
    have n8 := t.hi
    have lW : (W.map li).length = n := by rw [List.length_map, t.len]
    refine ht_seq (ht_drop (ev_call (ea_cons (ev_var rfl) ea_nil) t.need) ?_)
    refine ht_retO (eo_settled t (rms_range n) hs (ev_var rfl) (evd_eq (EvO.toD (eo_listRg (n := (n : Int)) (evd_eq (ev_lenL (ev_var rfl)) (by rw [lW])) (by omega))) ?_)) rfl
    rw [Int.toNat_natCast]
  · show HT K E _ [.da d] _
    exact ht_seq (ht_dropX (xa_table (ev_var rfl) hd hk) rfl)
theorem best_ex {W : List (List Int)} {n : Nat} (t : Tab W n) : ∃ k R', SetN W n k (List.range n) R' := settles_ex t (rms_range n)
theorem eo_best {W : List (List Int)} {R' : List Nat} {n k : Nat} (t : Tab W n) (hs : SetN W n k (List.range n) R') (h0 : EvD K t0 Γ (PD.tb W)) : EvO K (tCall (spOf K (S_best c)) [] E (tCons t0 tNil)) Γ (lnL R') :=
  eo_call (ea_cons h0 ea_nil) (.inl ⟨W, R', n, k, t, hs, rfl, rfl⟩)
/-! ### need_ways, price_of, prices -/
def S_need_ways (c : CA) (ds : List PyData) (r : Res) : Prop := ∃ (W : List (List Int)) (R : List Nat) (n : Nat), Tab W n ∧ Rms R n ∧ ds = [PD.tb W, ln R] ∧ r = if (bw W R n).1 = none then .ok (wyD n (bw W R n).2) else .er c.nb
abbrev t_need_ways (K : PySem.W.Frag) (c : CA) (E : XK) : TS :=
  (tSeq (tAsg (tCall (spOf K (S_best_ways c)) [] E (tCons (tVar 0) (tCons (tVar 1) tNil))) (gTup K 2 (gCons (gName 2) (gCons (gName 3) gNil))))
    (tSeq (tIfS (tTest (tOp rNotN (tVar 2) (tC .non))) (tRaiseC c.nb E) tNext)
    (tRet (tVar 3))))
abbrev N_need_ways : List Str := ["wishes", "rooms", "ring", "ways"]
theorem ht_need_ways (h : S_need_ways c ds r) : HT K E (t_need_ways K c E) (env0 N_need_ways ds) (Post r) := by
  obtain ⟨W, R, n, t, q, rfl, rfl⟩ := h
  show HT K E _ [.da (PD.tb W), .da (ln R), .no, .no] _
  refine ht_seq (ht_asgT (ev_call (ea_two (ev_var rfl) (ev_var rfl)) ⟨W, R, n, t, q, rfl, rfl⟩) ?_)
  cases e : (bw W R n).1 with
  | none =>
    refine ht_seq (ht_if (b := false) (et_test (ev_notN (d := .none) (ev_var rfl))) (fun z => nomatch z) fun _ => ht_next ?_)
    rw [if_pos rfl]
    exact ht_ret (ev_var rfl) rfl
  | some Q =>
    refine ht_seq (ht_if (b := true) (et_test (ev_notN (d := ln Q) (ev_var rfl))) (fun _ => ht_raise ?_) (fun z => nomatch z))
    rw [if_neg (fun z => nomatch z)]
    rfl
def priceOf (w : Wy) (n j : Nat) : Int := maxL ((List.range n).map fun i => (w i j).1)
def S_price_of (c : CA) (ds : List PyData) (r : Res) : Prop := ∃ (w : Wy) (n j : Nat), 1 ≤ n ∧ n ≤ 8 ∧ j < n ∧ ds = [wyD n w, .int (j : Int)] ∧ r = .ok (.int (priceOf w n j))
abbrev t_price_of (K : PySem.W.Frag) (c : CA) (E : XK) : TS :=
  (tRet (tCB (rMax K) (tCons (tLc (iList K (tVar 0)) (gName 2) tYes (tOp (rIx K) (tOp (rIx K) (tVar 2) (tVar 1)) (tC (.int 0))) [2]) tNil)))
abbrev N_price_of : List Str := ["ways", "other", "row"]
theorem ht_price_of (h : S_price_of c ds r) : HT K E (t_price_of K c E) (env0 N_price_of ds) (Post r) := by
  obtain ⟨w, n, j, n1, n8, hj, rfl, rfl⟩ := h
  show HT K E _ [.da (wyD n w), .da (.int (j : Int)), .no] _
  have e := eo_mapL (K := K) (Γ := [.da (wyD n w), .da (.int (j : Int)), .no]) (j := 2) (tl := tVar 0) (te := tOp (rIx K) (tOp (rIx K) (tVar 2) (tVar 1)) (tC (.int 0))) (List.range n) (fun i => rowD n (w i)) (fun i => .int (w i j).1) (ev_var rfl) (by simp; omega)
    fun i hi => ev_fst (ev_rowAt (ev_var rfl) (ev_var rfl) hj)
  refine ht_ret (ev_max (ns := (List.range n).map fun i => (w i j).1) (evd_eq e.toD (by rw [List.map_map]; rfl)) ?_) rfl
  intro z
  have := congrArg List.length z
  simp at this
  omega
theorem ev_price {w : Wy} {n j : Nat} (n1 : 1 ≤ n) (n8 : n ≤ 8) (hj : j < n) (h0 : EvD K t0 Γ (wyD n w)) (h1 : EvD K t1 Γ (.int (j : Int))) : EvD K (tCall (spOf K (S_price_of c)) [] E (tCons t0 (tCons t1 tNil))) Γ (.int (priceOf w n j)) :=
  ev_call (ea_two h0 h1) ⟨w, n, j, n1, n8, hj, rfl, rfl⟩
/-- the prices, as they are written one by one -/
def prGo (R : List Nat) (w : Wy) (n : Nat) : Nat → List Int
  | 0 => List.replicate n 0
  | k + 1 => (prGo R w n k).set (R.getD k 0) (priceOf w n k)
def prs (W : List (List Int)) (R : List Nat) (n : Nat) : List Int := prGo R (bw W R n).2 n n
theorem prGo_len {R : List Nat} {w : Wy} {n : Nat} : ∀ k, (prGo R w n k).length = n
  | 0 => by simp [prGo]
  | k + 1 => by simp [prGo, prGo_len k]
def S_prices (c : CA) (ds : List PyData) (r : Res) : Prop :=
  (∃ (W : List (List Int)) (R : List Nat) (n : Nat), Tab W n ∧ Rms R n ∧ ds = [PD.tb W, ln R] ∧ r = if (bw W R n).1 = none then .own ((prs W R n).map .int) else .er c.nb) ∨ (ds.length = 2 ∧ S_ahead c ds r)
abbrev t_prices (K : PySem.W.Frag) (c : CA) (E : XK) : TS :=
  (tSeq (tDrop (tCall (spOf K (S_need_rooms c)) [] E (tCons (tVar 0) (tCons (tVar 1) tNil))))
    (tSeq (tAsg (tCall (spOf K (S_need_ways c)) [] E (tCons (tVar 0) (tCons (tVar 1) tNil))) (gName 2))
    (tSeq (tAsg (tOp rMul2 (tLst (tCons (tC (.int 0)) tNil)) (tCB (rLenV K) (tCons (tVar 1) tNil))) (gName 3))
    (tSeq (tFor (iRng1 (tCons (tCB (rLenV K) (tCons (tVar 1) tNil)) tNil)) (gName 4) (tAsg (tCall (spOf K (S_price_of c)) [] E (tCons (tVar 2) (tCons (tVar 4) tNil))) (gSub (tVar 3) (tOp (rIx K) (tVar 1) (tVar 4)) rSetL)))
    (tRet (tVar 3))))))
abbrev N_prices : List Str := ["wishes", "rooms", "ways", "found", "other"]
theorem ht_prices (h : S_prices c ds r) : HT K E (t_prices K c E) (env0 N_prices ds) (Post r) := by
  rcases h with ⟨W, R, n, t, q, rfl, rfl⟩ | ⟨hl, w, d, rest, C, rfl, hw, hd, he, rfl⟩
  · show HT K E _ [.da (PD.tb W), .da (ln R), .no, .no, .no] _
    have n8 := t.hi
    have n1 := t.lo
    have lR : (lnL R).length = n := by rw [List.length_map, q.len]
    refine ht_seq (ht_drop (ev_call (ea_two (ev_var rfl) (ev_var rfl)) (q.need t)) ?_)
    by_cases e : (bw W R n).1 = none
    · rw [if_pos e]
      refine ht_seq (ht_asg (ev_call (ea_two (ev_var rfl) (ev_var rfl)) ⟨W, R, n, t, q, rfl, by rw [if_pos e]⟩) ?_)
      refine ht_seq (ht_asgO (ev_rep (n := (n : Int)) (EvO.toD (eo_lst (ea_cons ev_int ea_nil) (by simp))) (evd_eq (ev_lenL (ev_var rfl)) (by rw [lR])) (by omega)) ?_)
      refine ht_seq (ht_forR (n := (n : Int)) (fun i Γ' => ∃ s, Γ' = [.da (PD.tb W), .da (ln R), .da (wyD n (bw W R n).2), .ow ((prGo R (bw W R n).2 n i).map .int), s]) (ea_cons (evd_eq (ev_lenL (ev_var rfl)) (by rw [lR])) ea_nil) (by omega) ⟨.no, ?_⟩ ?_ ?_)
      · rw [Int.toNat_natCast]
        show _ = [Sl.da (PD.tb W), .da (ln R), .da (wyD n (bw W R n).2), .ow ((List.replicate n (0 : Int)).map .int), .no]
        rw [List.map_replicate]
        rfl
      · rintro i Γ' hi ⟨s, rfl⟩
        have hi : i < n := by omega
        refine ht_set (k := ((R.getD i 0 : Nat) : Int)) rfl (ev_price n1 n8 hi (ev_var rfl) (ev_var rfl)) (ev_roomOf q (ev_var rfl) (ev_var rfl) hi) (by omega) ?_ ⟨.da (.int (i : Int)), ?_⟩
        · rw [List.length_map, prGo_len]
          have := q.at_lt hi
          omega
        · show [Sl.da (PD.tb W), .da (ln R), .da (wyD n (bw W R n).2), .ow (((prGo R (bw W R n).2 n i).map PyData.int).set ((R.getD i 0 : Nat) : Int).toNat (.int (priceOf (bw W R n).2 n i))), .da (.int (i : Int))] = _
          rw [Int.toNat_natCast, ← List.map_set]
          rfl
      · rintro Γ' ⟨s, rfl⟩
        rw [Int.toNat_natCast]
        exact ht_retS rfl rfl
    · rw [if_neg e]
      exact ht_seq (ht_asgX (ex_call (ea_two (ev_var rfl) (ev_var rfl)) ⟨W, R, n, t, q, rfl, by rw [if_neg e]⟩) rfl)
  · have := len2 hl
    subst this
    show HT K E _ [.da w, .da d, .no, .no, .no] _
    exact ht_seq (ht_dropX (xa_rooms (ev_var rfl) (ev_var rfl) hw hd he) rfl)
theorem eo_prices {W : List (List Int)} {R : List Nat} {n : Nat} (t : Tab W n) (q : Rms R n) (e : (bw W R n).1 = none) (h0 : EvD K t0 Γ (PD.tb W)) (h1 : EvD K t1 Γ (ln R)) : EvO K (tCall (spOf K (S_prices c)) [] E (tCons t0 (tCons t1 tNil))) Γ ((prs W R n).map .int) :=
  eo_call (ea_two h0 h1) (.inl ⟨W, R, n, t, q, rfl, by rw [if_pos e]⟩)
/-! ### chain -/
def chL (w : Wy) (j : Nat) (p : Int) : List Nat → List Nat
  | [] => []
  | i :: is => if (w i j).1 = p then (w i j).2 else chL w j p is
def chainOf (W : List (List Int)) (R : List Nat) (n j : Nat) : List Nat := chL (bw W R n).2 j (priceOf (bw W R n).2 n j) (List.range n)
def S_chain (c : CA) (ds : List PyData) (r : Res) : Prop :=
  (∃ (W : List (List Int)) (R : List Nat) (n j : Nat), Tab W n ∧ Rms R n ∧ j < n ∧ ds = [PD.tb W, ln R, .int ((R.getD j 0 : Nat) : Int)] ∧ r = if (bw W R n).1 = none then .own (lnL (chainOf W R n j)) else .er c.nb) ∨
  (∃ (W : List (List Int)) (R : List Nat) (n : Nat) (d : PyData), Tab W n ∧ Rms R n ∧ placeOk d n = false ∧ ds = [PD.tb W, ln R, d] ∧ r = .er c.br) ∨ (ds.length = 3 ∧ S_ahead c ds r)
abbrev t_chain (K : PySem.W.Frag) (c : CA) (E : XK) : TS :=
  (tSeq (tDrop (tCall (spOf K (S_need_rooms c)) [] E (tCons (tVar 0) (tCons (tVar 1) tNil))))
    (tSeq (tDrop (tCall (spOf K (S_need_place c)) [] E (tCons (tVar 2) (tCons (tCB (rLenV K) (tCons (tVar 1) tNil)) tNil))))
    (tSeq (tAsg (tCall (spOf K (S_need_ways c)) [] E (tCons (tVar 0) (tCons (tVar 1) tNil))) (gName 3))
    (tSeq (tAsg (tBM K "list" (rIndex K) (tVar 1) (tCons (tVar 2) tNil)) (gName 4))
    (tSeq (tFor (iList K (tVar 3)) (gName 5) (tIfS (tTest (tOp (rEq2 K) (tOp (rIx K) (tOp (rIx K) (tVar 5) (tVar 4)) (tC (.int 0))) (tCall (spOf K (S_price_of c)) [] E (tCons (tVar 3) (tCons (tVar 4) tNil))))) (tRet (tCB (rListV K) (tCons (tOp (rIx K) (tOp (rIx K) (tVar 5) (tVar 4)) (tC (.int 1))) tNil))) tNext))
    (tRet (tLst tNil)))))))
abbrev N_chain : List Str := ["wishes", "rooms", "room", "ways", "other", "row"]
theorem pl_ok {k n : Nat} (h : k < n) : placeOk (.int (k : Int)) n = true := by
  show (decide (0 ≤ (k : Int)) && decide ((k : Int) < (n : Int))) = true
  have : (0 : Int) ≤ (k : Int) := by omega
  have : (k : Int) < (n : Int) := by omega
  simp [*]
theorem ht_chain (h : S_chain c ds r) : HT K E (t_chain K c E) (env0 N_chain ds) (Post r) := by
  rcases h with ⟨W, R, n, j, t, q, hj, rfl, rfl⟩ | ⟨W, R, n, d, t, q, hd, rfl, rfl⟩ | ⟨hl, w, d, rest, C, rfl, hw, hd, he, rfl⟩
  · show HT K E _ [.da (PD.tb W), .da (ln R), .da (.int ((R.getD j 0 : Nat) : Int)), .no, .no, .no] _
    have n8 := t.hi
    have n1 := t.lo
    have lR : (lnL R).length = n := by rw [List.length_map, q.len]
    refine ht_seq (ht_drop (ev_call (ea_two (ev_var rfl) (ev_var rfl)) (q.need t)) ?_)
    refine ht_seq (ht_drop (ev_call (ea_two (ev_var rfl) (ev_lenL (ev_var rfl))) ⟨_, n, by rw [lR], by rw [if_pos (pl_ok (q.at_lt hj))]⟩) ?_)
    by_cases e : (bw W R n).1 = none
    · rw [if_pos e]
      refine ht_seq (ht_asg (ev_call (ea_two (ev_var rfl) (ev_var rfl)) ⟨W, R, n, t, q, rfl, by rw [if_pos e]⟩) ?_)
      have iv : EvD K (tVar 1) [.da (PD.tb W), .da (ln R), .da (.int ((R.getD j 0 : Nat) : Int)), .da (wyD n (bw W R n).2), .no, .no] (.list ((R.map fun r : Nat => (r : Int)).map .int)) := by
        rw [List.map_map]; exact ev_var rfl
      refine ht_seq (ht_asg (ev_index (ns := R.map fun r : Nat => (r : Int)) (j := j) iv (ev_var rfl) ?_ fun m hm z => ?_) ?_)
      · rw [List.getElem?_map, List.getD_eq_getElem?_getD, List.getElem?_eq_getElem (by rw [q.len]; exact hj)]
        rfl
      · rw [List.getElem?_map] at z
        obtain ⟨a, ha, z⟩ := Option.map_eq_some_iff.mp z
        obtain ⟨hm', e2⟩ := List.getElem?_eq_some_iff.mp ha
        have : m = j := getD_inj q.nd hm' (by rw [q.len]; exact hj) (by
          rw [List.getD_eq_getElem?_getD, List.getElem?_eq_getElem hm', e2]
          show a = _
          omega)
        omega
      generalize hw : (bw W R n).2 = w
      have hc : chainOf W R n j = chL w j (priceOf w n j) (List.range n) := by unfold chainOf; rw [hw]
      refine ht_seq (ht_forN (List.range n) (fun i => rowD n (w i)) (fun i Γ' => ∃ s, Γ' = [.da (PD.tb W), .da (ln R), .da (.int ((R.getD j 0 : Nat) : Int)), .da (wyD n w), .da (.int (j : Int)), s] ∧ chainOf W R n j = chL w j (priceOf w n j) ((List.range n).drop i)) (ev_var rfl) ⟨_, rfl, hc⟩ ?_ ?_)
      · rintro i x Γ' hi ⟨s, rfl, hr⟩
        obtain ⟨hi', ex⟩ := List.getElem?_eq_some_iff.mp hi
        rw [List.getElem_range] at ex
        subst ex
        have hi : i < n := by simpa using hi'
        rw [range_drop hi] at hr
        refine ht_if (et_test (ev_eqI (ev_fst (ev_rowAt (ev_var rfl) (ev_var rfl) hj)) (ev_price n1 n8 hj (ev_var rfl) (ev_var rfl)))) (fun h => ?_) (fun h => ht_next ⟨_, rfl, ?_⟩)
        · have h := of_decide_eq_true h
          refine ht_retO (eo_list (ev_snd (ev_rowAt (ev_var rfl) (ev_var rfl) hj))) ?_
          show _ = lnL (chainOf W R n j)
          rw [hr, chL, if_pos h]
        · have h := of_decide_eq_false h
          rw [hr, chL, if_neg h]
      · rintro Γ' ⟨s, rfl, hr⟩
        refine ht_retO (eo_lst ea_nil (by simp)) ?_
        show _ = lnL (chainOf W R n j)
        rw [hr, List.drop_eq_nil_of_le (Nat.le_refl _)]
        rfl
    · rw [if_neg e]
      exact ht_seq (ht_asgX (ex_call (ea_two (ev_var rfl) (ev_var rfl)) ⟨W, R, n, t, q, rfl, by rw [if_neg e]⟩) rfl)
  · show HT K E _ [.da (PD.tb W), .da (ln R), .da d, .no, .no, .no] _
    have lR : (lnL R).length = n := by rw [List.length_map, q.len]
    refine ht_seq (ht_drop (ev_call (ea_two (ev_var rfl) (ev_var rfl)) (q.need t)) ?_)
    exact ht_seq (ht_dropX (ex_call (ea_two (ev_var rfl) (ev_lenL (ev_var rfl))) ⟨_, n, by rw [lR], by rw [hd]; rfl⟩) rfl)
  · obtain ⟨a, rfl⟩ : ∃ a, rest = [a] := by
      match rest, hl with
      | [a], _ => exact ⟨a, rfl⟩
    show HT K E _ [.da w, .da d, .da a, .no, .no, .no] _
    exact ht_seq (ht_dropX (xa_rooms (ev_var rfl) (ev_var rfl) hw hd he) rfl)
/-! ### envies -/
def envCond (W : List (List Int)) (R : List Nat) (ps : List Int) (n i k : Nat) : Bool := decide ((n : Int) * cell W i (R.getD i 0) - ps.getD (R.getD i 0) 0 < (n : Int) * cell W i k - ps.getD k 0)
def pairD (i k : Nat) : PyData := .tuple [.int (i : Int), .int (k : Int)]
def envRow (W : List (List Int)) (R : List Nat) (ps : List Int) (n i m : Nat) : List PyData := ((List.range m).filter (envCond W R ps n i)).map (pairD i)
def envL (W : List (List Int)) (R : List Nat) (ps : List Int) (n m : Nat) : List PyData := (List.range m).flatMap fun i => envRow W R ps n i n
def partsOk (d : PyData) (n : Nat) : Bool := match d with
  | .list xs => decide (xs.length = n) && xs.all whole
  | _ => false
def S_envies (c : CA) (ds : List PyData) (r : Res) : Prop :=
  (∃ (W : List (List Int)) (R : List Nat) (n : Nat) (ps : List Int), Tab W n ∧ Rms R n ∧ ps.length = n ∧ ds = [PD.tb W, ln R, li ps] ∧ r = .own (envL W R ps n n)) ∨
  (∃ (W : List (List Int)) (R : List Nat) (n : Nat) (d : PyData), Tab W n ∧ Rms R n ∧ pd d = true ∧ partsOk d n = false ∧ ds = [PD.tb W, ln R, d] ∧ r = .er c.be) ∨ (ds.length = 3 ∧ S_ahead c ds r)
abbrev t_envies (K : PySem.W.Frag) (c : CA) (E : XK) : TS :=
  (tSeq (tDrop (tCall (spOf K (S_need_rooms c)) [] E (tCons (tVar 0) (tCons (tVar 1) tNil))))
    (tSeq (tIfS (tOr (tNot (tB (tCB (rIsi K) (tCons (tVar 2) (tCons (tC (.ty "list")) tNil))))) (tOr (tTest (tOp (rNe2 K) (tCB (rLenV K) (tCons (tVar 2) tNil)) (tCB (rLenV K) (tCons (tVar 1) tNil)))) (tNot (tB (tCB (rAll K) (tCons (tLc (iList K (tVar 2)) (gName 7) tYes (tCall (spOf K (S_is_whole c)) [] E0 (tCons (tVar 7) tNil)) [7]) tNil)))))) (tRaiseC c.be E) tNext)
    (tSeq (tAsg (tLst tNil) (gName 3))
    (tSeq (tFor (iRng1 (tCons (tCB (rLenV K) (tCons (tVar 1) tNil)) tNil)) (gName 4) (tSeq (tAsg (tOp rSubI (tOp rMul2 (tCB (rLenV K) (tCons (tVar 1) tNil)) (tOp (rIx K) (tOp (rIx K) (tVar 0) (tVar 4)) (tOp (rIx K) (tVar 1) (tVar 4)))) (tOp (rIx K) (tVar 2) (tOp (rIx K) (tVar 1) (tVar 4)))) (gName 5))
    (tFor (iRng1 (tCons (tCB (rLenV K) (tCons (tVar 1) tNil)) tNil)) (gName 6) (tIfS (tTest (tOp rGtI (tOp rSubI (tOp rMul2 (tCB (rLenV K) (tCons (tVar 1) tNil)) (tOp (rIx K) (tOp (rIx K) (tVar 0) (tVar 4)) (tVar 6))) (tOp (rIx K) (tVar 2) (tVar 6))) (tVar 5))) (tDrop (tBM K "list" rAppend (tVar 3) (tCons (tTup (tCons (tVar 4) (tCons (tVar 6) tNil))) tNil))) tNext))))
    (tRet (tVar 3))))))
abbrev N_envies : List Str := ["wishes", "rooms", "parts", "found", "one", "own", "room", "part"]
theorem env_len {W : List (List Int)} {R : List Nat} {ps : List Int} {n i m : Nat} : (envRow W R ps n i m).length ≤ m := by
  unfold envRow
  rw [List.length_map]
  exact Nat.le_trans (List.length_filter_le _ _) (by simp)
theorem envL_len {W : List (List Int)} {R : List Nat} {ps : List Int} {n : Nat} : ∀ m, (envL W R ps n m).length ≤ m * n
  | 0 => by simp [envL]
  | m + 1 => by
    have ih := envL_len (W := W) (R := R) (ps := ps) (n := n) m
    have := env_len (W := W) (R := R) (ps := ps) (n := n) (i := m) (m := n)
    unfold envL at ih ⊢
    rw [List.range_succ, List.flatMap_append, List.length_append]
    simp only [List.flatMap_cons, List.flatMap_nil, List.append_nil]
    rw [Nat.add_mul, Nat.one_mul]
    omega
theorem cmul_small {a b : Int} (h : 0 ≤ a ∧ a ≤ 8) : CMul a b := .inl (by omega)
theorem ht_envies (h : S_envies c ds r) : HT K E (t_envies K c E) (env0 N_envies ds) (Post r) := by
  rcases h with ⟨W, R, n, ps, t, q, hp, rfl, rfl⟩ | ⟨W, R, n, d, t, q, hd, hk, rfl, rfl⟩ | ⟨hl, w, d, rest, C, rfl, hw, hd, he, rfl⟩
  · show HT K E _ [.da (PD.tb W), .da (ln R), .da (li ps), .no, .no, .no, .no, .no] _
    have n8 := t.hi
    have n1 := t.lo
    have lR : (lnL R).length = n := by rw [List.length_map, q.len]
    have lp : (ps.map PyData.int).length = n := by rw [List.length_map, hp]
    refine ht_seq (ht_drop (ev_call (ea_two (ev_var rfl) (ev_var rfl)) (q.need t)) ?_)
    have all : EvD K (tCB (rAll K) (tCons (tLc (iList K (tVar 2)) (gName 7) tYes (tCall (spOf K (S_is_whole c)) [] E0 (tCons (tVar 7) tNil)) [7]) tNil)) [.da (PD.tb W), .da (ln R), .da (li ps), .no, .no, .no, .no, .no] (.bool true) := by
      have e := eo_mapL (K := K) (Γ := [.da (PD.tb W), .da (ln R), .da (li ps), .no, .no, .no, .no, .no]) (j := 7) (tl := tVar 2) (te := tCall (spOf K (S_is_whole c)) [] E0 (tCons (tVar 7) tNil)) ps PyData.int (fun _ => .bool true) (ev_var rfl) (by omega) fun x _ => ev_whole (d := .int x) (ev_var rfl)
      refine evd_eq (ev_all (bs := ps.map fun _ => true) (evd_eq e.toD (by rw [List.map_map]; rfl))) ?_
      rw [List.all_map]
      simp
    refine ht_seq (ht_if (b := false) (evt_eq (et_or (et_not (et_B (ev_isi (ev_var rfl) (kit_list _)))) fun _ => et_or (et_test (ev_neI (ev_lenL (ev_var rfl)) (ev_lenL (ev_var rfl)))) fun _ => et_not (et_B all)) (by rw [lR, lp]; simp [isList])) (fun z => nomatch z) fun _ => ht_next ?_)
    refine ht_seq (ht_asgO (eo_lst ea_nil (by simp)) ?_)
    refine ht_seq (ht_forR (n := (n : Int)) (fun i Γ' => ∃ s4 s5 s6, Γ' = [.da (PD.tb W), .da (ln R), .da (li ps), .ow (envL W R ps n i), s4, s5, s6, .no]) (ea_cons (evd_eq (ev_lenL (ev_var rfl)) (by rw [lR])) ea_nil) (by omega) ⟨_, _, _, rfl⟩ ?_ ?_)
    · rintro i Γ' hi ⟨s4, s5, s6, rfl⟩
      have hi : i < n := by omega
      have hr := q.at_lt hi
      refine ht_seq (ht_asg (ev_sub (ev_mul (evd_eq (ev_lenL (ev_var rfl)) (by rw [lR])) (ev_cell t (ev_var rfl) (ev_var rfl) (ev_roomOf q (ev_var rfl) (ev_var rfl) hi) hi hr) (cmul_small (by omega))) (ev_at (ev_var rfl) (ev_roomOf q (ev_var rfl) (ev_var rfl) hi) (by omega))) ?_)
      refine ht_forR (n := (n : Int)) (fun m Γ' => ∃ s6, Γ' = [.da (PD.tb W), .da (ln R), .da (li ps), .ow (envL W R ps n i ++ envRow W R ps n i m), .da (.int (i : Int)), .da (.int ((n : Int) * cell W i (R.getD i 0) - ps.getD (R.getD i 0) 0)), s6, .no]) (ea_cons (evd_eq (ev_lenL (ev_var rfl)) (by rw [lR])) ea_nil) (by omega) ⟨s6, ?_⟩ ?_ ?_
      · show [Sl.da (PD.tb W), .da (ln R), .da (li ps), .ow (envL W R ps n i), .da (.int (i : Int)), .da (.int ((n : Int) * cell W i (R.getD i 0) - ps.getD (R.getD i 0) 0)), s6, .no] = _
        simp [envRow]
      · rintro m Γ' hm ⟨s6, rfl⟩
        have hm : m < n := by omega
        refine ht_if (et_test (ev_gt (ev_sub (ev_mul (evd_eq (ev_lenL (ev_var rfl)) (by rw [lR])) (ev_cell t (ev_var rfl) (ev_var rfl) (ev_var rfl) hi hm) (cmul_small (by omega))) (ev_at (ev_var rfl) (ev_var rfl) (by omega))) (ev_var rfl))) (fun h => ?_) (fun h => ht_next ⟨.da (.int (m : Int)), ?_⟩)
        · refine ht_app (d := pairD i m) rfl (ev_tup (ea_two (ev_var rfl) (ev_var rfl)) (by simp)) ?_ ⟨.da (.int (m : Int)), ?_⟩
          · have h1 := envL_len (W := W) (R := R) (ps := ps) (n := n) i
            have h2 := env_len (W := W) (R := R) (ps := ps) (n := n) (i := i) (m := m)
            have h3 : i * n ≤ 8 * 8 := Nat.mul_le_mul (by omega) n8
            rw [List.length_append]
            omega
          · have h' : envCond W R ps n i m = true := h
            have e : envRow W R ps n i (m + 1) = envRow W R ps n i m ++ [pairD i m] := by
              unfold envRow
              rw [List.range_succ, List.filter_append, List.map_append]
              simp [h']
            show [Sl.da (PD.tb W), .da (ln R), .da (li ps), .ow (envL W R ps n i ++ envRow W R ps n i m ++ [pairD i m]), _, _, _, _] = _
            rw [e, List.append_assoc]
        · have h' : envCond W R ps n i m = false := h
          have e : envRow W R ps n i (m + 1) = envRow W R ps n i m := by
            unfold envRow
            rw [List.range_succ, List.filter_append, List.map_append]
            simp [h']
          rw [e]
          rfl
      · rintro Γ' ⟨s6, rfl⟩
        refine ⟨.da (.int (i : Int)), .da (.int ((n : Int) * cell W i (R.getD i 0) - ps.getD (R.getD i 0) 0)), s6, ?_⟩
        rw [Int.toNat_natCast]
        have e : envL W R ps n (i + 1) = envL W R ps n i ++ envRow W R ps n i n := by
          unfold envL
          rw [List.range_succ, List.flatMap_append]
          simp
        rw [e]
    · rintro Γ' ⟨s4, s5, s6, rfl⟩
      rw [Int.toNat_natCast]
      exact ht_retS rfl rfl
  · show HT K E _ [.da (PD.tb W), .da (ln R), .da d, .no, .no, .no, .no, .no] _
    have lR : (lnL R).length = n := by rw [List.length_map, q.len]
    refine ht_seq (ht_drop (ev_call (ea_two (ev_var rfl) (ev_var rfl)) (q.need t)) ?_)
    by_cases hl : isList d = true
    · obtain ⟨xs, rfl⟩ := of_list hl hd
      by_cases hx : xs.length = n
      · have hk' : xs.all whole = false := by
          have : (decide (xs.length = n) && xs.all whole) = false := hk
          rw [hx] at this
          simpa using this
        have all : EvD K (tCB (rAll K) (tCons (tLc (iList K (tVar 2)) (gName 7) tYes (tCall (spOf K (S_is_whole c)) [] E0 (tCons (tVar 7) tNil)) [7]) tNil)) [.da (PD.tb W), .da (ln R), .da (.list xs), .no, .no, .no, .no, .no] (.bool false) := by
          have e := eo_mapL (K := K) (Γ := [.da (PD.tb W), .da (ln R), .da (.list xs), .no, .no, .no, .no, .no]) (j := 7) (tl := tVar 2) (te := tCall (spOf K (S_is_whole c)) [] E0 (tCons (tVar 7) tNil)) xs id (fun x => .bool (whole x)) (by rw [List.map_id]; exact ev_var rfl) (by have := t.hi; omega) fun x _ => ev_whole (d := x) (ev_var rfl)
          refine evd_eq (ev_all (bs := xs.map whole) (evd_eq e.toD (by rw [List.map_map]; rfl))) ?_
          rw [List.all_map, ← hk']
          rfl
        refine ht_seq (ht_if (b := true) (evt_eq (et_or (et_not (et_B (ev_isi (ev_var rfl) (kit_list _)))) fun _ => et_or (et_test (ev_neI (ev_lenL (ev_var rfl)) (ev_lenL (ev_var rfl)))) fun _ => et_not (et_B all)) (by simp)) (fun _ => ht_raise rfl) (fun z => nomatch z))
      · refine ht_seq (ht_if (b := true) (evt_eq (et_or (b := true) (et_not (et_B (ev_isi (ev_var rfl) (kit_list _)))) fun _ => evt_eq (et_or (b := false) (et_test (ev_neI (ev_lenL (ev_var rfl)) (ev_lenL (ev_var rfl)))) fun z => ?_) ?_) (by simp)) (fun _ => ht_raise rfl) (fun z => nomatch z))
        · rw [lR] at z
          simp at z
          omega
        · rw [lR]
          simp
          first | done | omega
    · have hl' : isList d = false := by simpa using hl
      refine ht_seq (ht_if (b := true) (evt_eq (et_or (b := false) (et_not (et_B (ev_isi (ev_var rfl) (kit_list _)))) fun e => ?_) (by rw [hl']; rfl)) (fun _ => ht_raise rfl) (fun z => nomatch z))
      rw [hl'] at e; cases e
  · obtain ⟨a, rfl⟩ : ∃ a, rest = [a] := by
      match rest, hl with
      | [a], _ => exact ⟨a, rfl⟩
    show HT K E _ [.da w, .da d, .da a, .no, .no, .no, .no, .no] _
    exact ht_seq (ht_dropX (xa_rooms (ev_var rfl) (ev_var rfl) hw hd he) rfl)
/-! ### need_rent, parts_of -/
def rentOk : PyData → Bool
  | .int i => decide (0 ≤ i) && decide (i ≤ 1000000000)
  | _ => false
def S_need_rent (c : CA) (ds : List PyData) (r : Res) : Prop := ∃ d : PyData, ds = [d] ∧ r = if rentOk d = true then .ok .none else .er c.be
abbrev t_need_rent (K : PySem.W.Frag) (c : CA) (E : XK) : TS :=
  (tIfS (tOr (tNot (tB (tCall (spOf K (S_is_whole c)) [] E (tCons (tVar 0) tNil)))) (tNot (tTest (tChain rLeI rLeI (tC (.int 0)) (tVar 0) (tC (.int 1000000000)))))) (tRaiseC c.be E) tNext)
abbrev N_need_rent : List Str := ["rent"]
theorem ht_need_rent (h : S_need_rent c ds r) : HT K E (t_need_rent K c E) (env0 N_need_rent ds) (Post r) := by
  obtain ⟨d, rfl, rfl⟩ := h
  show HT K E _ [.da d] _
  by_cases w : whole d = true
  · obtain ⟨j, rfl⟩ := of_whole w
    refine ht_if (et_or (et_not (et_B (ev_whole (ev_var rfl)))) fun _ => et_not (et_test (ev_leLe ev_int (ev_var rfl) ev_int))) (fun h => ?_) (fun h => ?_)
    · have e : rentOk (.int j) = false := by
        simp [whole] at h
        show (decide (0 ≤ j) && decide (j ≤ 1000000000)) = false
        by_cases y : 0 ≤ j
        · simp; omega
        · simp [y]
      refine ht_raise ?_
      rw [e]; rfl
    · have e : rentOk (.int j) = true := by
        simp [whole] at h
        show (decide (0 ≤ j) && decide (j ≤ 1000000000)) = true
        simp [h]
      refine ht_next ?_
      rw [if_pos e]; rfl
  · have w' : whole d = false := by simpa using w
    refine ht_if (b := true) (evt_eq (et_or (b := false) (et_not (et_B (ev_whole (ev_var rfl)))) fun e => ?_) (by rw [w']; rfl)) (fun _ => ?_) (fun z => nomatch z)
    · rw [w'] at e; cases e
    · have e : rentOk d = false := by
        cases d with
        | int j => cases w'
        | _ => rfl
      refine ht_raise ?_
      rw [e]; rfl
def partsOf (W : List (List Int)) (R : List Nat) (n : Nat) (rent : Int) : List Int := (prs W R n).map fun p => p * (n : Int) + (rent - (prs W R n).sum)
def S_parts_of (c : CA) (ds : List PyData) (r : Res) : Prop := ∃ (W : List (List Int)) (R : List Nat) (n : Nat) (rent : Int), Tab W n ∧ Rms R n ∧ (bw W R n).1 = none ∧ ds = [PD.tb W, ln R, .int rent] ∧ r = .own ((partsOf W R n rent).map .int)
abbrev t_parts_of (K : PySem.W.Frag) (c : CA) (E : XK) : TS :=
  (tSeq (tAsg (tCall (spOf K (S_prices c)) [] E (tCons (tVar 0) (tCons (tVar 1) tNil))) (gName 3))
    (tSeq (tAsg (tOp rSubI (tVar 2) (tCB (rSum K) (tCons (tVar 3) tNil))) (gName 4))
    (tRet (tLc (iList K (tVar 3)) (gName 5) tYes (tOp rAdd3 (tOp rMul2 (tVar 5) (tCB (rLenV K) (tCons (tVar 1) tNil))) (tVar 4)) [5]))))
abbrev N_parts_of : List Str := ["wishes", "rooms", "rent", "row", "rest", "price"]
theorem prs_len {W : List (List Int)} {R : List Nat} {n : Nat} : (prs W R n).length = n := prGo_len n
theorem ht_parts_of (h : S_parts_of c ds r) : HT K E (t_parts_of K c E) (env0 N_parts_of ds) (Post r) := by
  obtain ⟨W, R, n, rent, t, q, e, rfl, rfl⟩ := h
  show HT K E _ [.da (PD.tb W), .da (ln R), .da (.int rent), .no, .no, .no] _
  have n8 := t.hi
  have lR : (lnL R).length = n := by rw [List.length_map, q.len]
  refine ht_seq (ht_asg (EvO.toD (eo_prices t q e (ev_var rfl) (ev_var rfl))) ?_)
  refine ht_seq (ht_asg (ev_sub (ev_var rfl) (ev_sum (ev_var rfl))) ?_)
  have e := eo_mapL (K := K) (Γ := [.da (PD.tb W), .da (ln R), .da (.int rent), .da (li (prs W R n)), .da (.int (rent - (prs W R n).sum)), .no]) (j := 5) (tl := tVar 3) (te := tOp rAdd3 (tOp rMul2 (tVar 5) (tCB (rLenV K) (tCons (tVar 1) tNil))) (tVar 4)) (prs W R n) PyData.int (fun p => .int (p * (n : Int) + (rent - (prs W R n).sum))) (ev_var rfl) (by rw [prs_len]; omega)
    fun p _ => ev_add (ev_mul (ev_var rfl) (evd_eq (ev_lenL (ev_var rfl)) (by rw [lR])) (.inr (by omega))) (ev_var rfl)
  refine ht_retO e ?_
  show _ = (partsOf W R n rent).map PyData.int
  unfold partsOf
  rw [List.map_map]; rfl
theorem eo_parts {W : List (List Int)} {R : List Nat} {n : Nat} {rent : Int} {t2 : TE} (t : Tab W n) (q : Rms R n) (e : (bw W R n).1 = none) (h0 : EvD K t0 Γ (PD.tb W)) (h1 : EvD K t1 Γ (ln R)) (h2 : EvD K t2 Γ (.int rent)) : EvO K (tCall (spOf K (S_parts_of c)) [] E (tCons t0 (tCons t1 (tCons t2 tNil)))) Γ ((partsOf W R n rent).map .int) :=
  eo_call (ea_cons h0 (ea_two h1 h2)) ⟨W, R, n, rent, t, q, e, rfl, rfl⟩
end
end PD

set_option Elab.async false
set_option linter.all false
set_option maxRecDepth 100000
set_option maxHeartbeats 1000000
/-! A list of lists that is written in its rows; _law_steps_by. -/
namespace PD
open PySem L2
/-- the list at p holds lists of its own, these at qs, with these things -/
structure NT (K : PySem.W.Frag) (H0 G H : Hp) (p : Addr) (qs : List Addr) (rows : List (List PyData)) : Prop where
  hp : H p = some (.lst (qs.map V.ref))
  gp : G p = none
  h0 : H0 p = none
  len : qs.length = rows.length
  nd : qs.Nodup
  pn : p ∉ qs
  row : ∀ (i : Nat) (q : Addr), qs[i]? = some q → ∃ vs row, rows[i]? = some row ∧ H q = some (.lst vs) ∧ AtAll K G vs row ∧ G q = none ∧ H0 q = none
/-- no slot owns anything -/
def Free (Γ : Env) : Prop := ∀ (i : Nat) (x : Sl), Γ[i]? = some x → (∀ ds, x ≠ .ow ds) ∧ ∀ ks, x ≠ .od ks
section
variable {K : PySem.W.Frag} {E : XK} {H0 G H H' : Hp} {σ : St} {Γ : Env} {p : Addr} {qs : List Addr} {rows : List (List PyData)}
theorem Sat.free (s : Sat K H0 G H σ Γ) (f : Free Γ) : Sat K H0 G H' σ Γ :=
  ⟨s.len, s.da, fun i ds q => absurd rfl ((f i _ q).1 ds), fun i j di dj p q1 => absurd rfl ((f i _ q1).1 di), fun i ks q => absurd rfl ((f i _ q).2 ks), fun i j di dj p q1 => absurd rfl ((f i _ q1).2 di), s.fx⟩
theorem NT.grow (t : NT K H0 G H p qs rows) (e : Same H H') : NT K H0 G H' p qs rows :=
  ⟨e _ _ t.hp, t.gp, t.h0, t.len, t.nd, t.pn, fun i q h => by
    obtain ⟨vs, row, h1, h2, h3⟩ := t.row i q h
    exact ⟨vs, row, h1, e _ _ h2, h3⟩⟩
/-- xs[i][k] = e -/
theorem nt_set {j : Nat} {te ti tk : TE} {x : PyData} {i k : Nat} {row : List PyData} {D : Ends} (s : Sat K H0 G H σ Γ) (f : Free Γ) (gh : Same G H) (h0 : Same H0 H) (hj : σ[j]? = some (some (.ref p))) (nt : NT K H0 G H p qs rows)
    (he : EvD K te Γ x) (hx : scal x = true) (hi : EvD K ti Γ (.int (i : Int))) (hk : EvD K tk Γ (.int (k : Int))) (hr : rows[i]? = some row) (kl : k < row.length)
    (q : ∀ H', Same H0 H' → Same G H' → Sat K H0 G H' σ Γ → NT K H0 G H' p qs (rows.set i (row.set k x)) → D.nx σ H') : tAsg te (gSub (tOp (rIx K) (tVar j) ti) tk rSetL) D σ H := by
  refine he H0 G H σ s gh _ fun v G1 H1 e1 a1 => ?_
  have a1 : At K G v x := a1.scal hx
  refine ⟨_, hj, ?_⟩
  have s1 : Sat K H0 G H1 σ Γ := s.free f
  have gh1 : Same G H1 := gh.trans e1.hh
  refine hi H0 G H1 σ s1 gh1 _ fun w G2 H2 e2 a2 => ?_
  cases a2
  have n2 := nt.grow (e1.hh.trans e2.hh)
  have il : i < qs.length := by rw [nt.len]; exact (List.getElem?_eq_some_iff.mp hr).1
  have hq : qs[i]? = some qs[i] := List.getElem?_eq_getElem il
  refine .inl ⟨p, qs.map V.ref, (i : Int), .ref qs[i], rfl, rfl, SqL.of n2.hp, ?_, ?_⟩
  · exact atI_of (by omega) (by rw [Int.toNat_natCast, List.getElem?_map, hq]; rfl)
  have gh2 : Same G H2 := gh1.trans e2.hh
  refine hk H0 G H2 σ (s.free f) gh2 _ fun w G3 H3 e3 a3 => ?_
  cases a3
  have n3 := n2.grow e3.hh
  obtain ⟨vs, row', h1, h2, h3, h4, h5⟩ := n3.row i _ hq
  have er : row' = row := by rw [hr] at h1; exact (Option.some.inj h1).symm
  subst er
  refine ⟨qs[i], vs, (k : Int), k, rfl, rfl, h2, ?_, ?_⟩
  · have := ixN_of (n := vs.length) (k := (k : Int)) (by omega) (by rw [h3.length]; omega)
    rwa [Int.toNat_natCast] at this
  have hh : Same H H3 := (e1.hh.trans e2.hh).trans e3.hh
  refine q _ (fun b o z => ?_) (fun b o z => ?_) (s.free f) ⟨?_, n3.gp, n3.h0, by rw [List.length_set]; exact n3.len, n3.nd, n3.pn, fun m b z => ?_⟩
  · rw [upd_ne (ne_of_none z h5)]; exact hh _ _ (h0 _ _ z)
  · rw [upd_ne (ne_of_none z h4)]; exact (gh2.trans e3.hh) _ _ z
  · have : p ≠ qs[i] := fun z => nt.pn (z ▸ List.getElem_mem il)
    rw [upd_ne this]; exact n3.hp
  · by_cases e : i = m
    · subst e
      rw [hq] at z
      cases z
      exact ⟨_, _, List.getElem?_set_self (by rw [← nt.len]; exact il), upd_same, h3.set a1 k, h4, h5⟩
    · obtain ⟨us, row2, k1, k2, k3⟩ := n3.row m b z
      refine ⟨us, row2, by rw [List.getElem?_set_ne e]; exact k1, ?_, k3⟩
      have : b ≠ qs[i] := fun y => by
        obtain ⟨ml, mz⟩ := List.getElem?_eq_some_iff.mp z
        exact e ((List.getElem_inj nt.nd).mp (by rw [mz, y]))
      rw [upd_ne this]; exact k2
/-- the table is data from now on -/
theorem NT.freeze (t : NT K H0 G H p qs rows) (gh : Same G H) : ∃ G', Same G G' ∧ Same G' H ∧ At K G' (.ref p) (.list (rows.map .list)) ∧ ∀ a, G a = none → H0 a ≠ none → G' a = none := by
  classical
  refine ⟨fun a => match G a with | some o => some o | none => if a = p ∨ a ∈ qs then H a else none, ?_, ?_, ?_, ?_⟩
  · intro a o e; show (match G a with | some o => some o | none => _) = _; rw [e]
  · intro a o e
    cases q : G a with
    | some u => simp only [q] at e; cases e; exact gh a _ q
    | none =>
      simp only [q] at e
      split at e
      · exact e
      · cases e
  · have up : Same G (fun a => match G a with | some o => some o | none => if a = p ∨ a ∈ qs then H a else none) := by
      intro a o e; show (match G a with | some o => some o | none => _) = _; rw [e]
    refine .lst (xs := qs.map V.ref) ?_ ?_
    · show (match G p with | some o => some o | none => if p = p ∨ p ∈ qs then H p else none) = _
      rw [t.gp]
      show (if p = p ∨ p ∈ qs then H p else none) = _
      rw [if_pos (Or.inl rfl)]
      exact t.hp
    · have go : ∀ (m : Nat), ∀ (l : List Addr) (rs : List (List PyData)), l = qs.drop m → rs = rows.drop m → AtAll K (fun a => match G a with | some o => some o | none => if a = p ∨ a ∈ qs then H a else none) (l.map V.ref) (rs.map .list) := by
        intro m l
        induction l generalizing m with
        | nil =>
          intro rs hl hrs
          have h1 := congrArg List.length hl
          rw [List.length_drop] at h1
          have h2 := congrArg List.length hrs
          rw [List.length_drop] at h2
          have := t.len
          have : rs = [] := List.length_eq_zero_iff.mp (by simp at h1; omega)
          subst this
          exact .nil
        | cons a l ih =>
          intro rs hl hrs
          have hm : qs[m]? = some a := by
            have : (qs.drop m)[0]? = some a := by rw [← hl]; rfl
            rw [List.getElem?_drop] at this
            simpa using this
          obtain ⟨vs, row, h1, h2, h3, h4, h5⟩ := t.row m a hm
          have hl' : l = qs.drop (m + 1) := by
            rw [← List.drop_drop, ← hl]; rfl
          have hrs' : rs = row :: rows.drop (m + 1) := by
            rw [hrs, List.drop_eq_getElem_cons (List.getElem?_eq_some_iff.mp h1).1, (List.getElem?_eq_some_iff.mp h1).2]
          rw [hrs']
          refine .cons (.lst (xs := vs) ?_ (h3.up up)) (ih (m + 1) _ hl' rfl)
          show (match G a with | some o => some o | none => if a = p ∨ a ∈ qs then H a else none) = _
          rw [h4]
          simp only
          rw [if_pos (.inr (List.mem_of_getElem? hm))]
          exact h2
      exact go 0 qs rows rfl rfl
  · intro a ga ha
    show (match G a with | some o => some o | none => if a = p ∨ a ∈ qs then H a else none) = none
    rw [ga]
    simp only
    split
    · rename_i h
      exfalso
      rcases h with rfl | h
      · exact ha t.h0
      · obtain ⟨m, hm⟩ := List.getElem?_of_mem h
        obtain ⟨vs, row, h1, h2, h3, h4, h5⟩ := t.row m a hm
        exact ha h5
    · rfl
/-- [[d] * n for x in xs], the rows its own -/
theorem nt_new {α : Type} {j : Nat} {te tl : TE} {n : Nat} {d : PyData} (xs : List α) (emb : α → PyData) (s : Sat K H0 G H σ Γ) (f : Free Γ) (gh : Same G H) (h : EvD K tl Γ (.list (xs.map emb))) (hz : xs.length ≤ 1000) (hd : scal d = true)
    (he : ∀ x ∈ xs, EvO K te ((wipeE Γ [j]).set j (.da (emb x))) (List.replicate n d)) (Q : VK)
    (q : ∀ D qs H', Same H H' → H D = none → NT K H G H' D qs (List.replicate xs.length (List.replicate n d)) → Q (.ref D) H') : tLc (iList K tl) (gName j) tYes te [j] σ H Q :=
  h H0 G H σ s gh _ fun v G1 H1 e1 a1 => by
    cases a1 with
    | lst l1 l2 =>
      rename_i l us
      refine ⟨l, rfl, ⟨us, SqL.of (e1.gh _ _ l1)⟩, fun D hD => ?_⟩
      have hD0 : H D = none := e1.hh.free hD
      have gl : Same G1 H1 := e1.gh
      refine lc_list (xs := us) (fun i H' => ∃ qs : List Addr, Same H1 H' ∧ H' D = some (.lst (qs.map V.ref)) ∧ qs.length = i ∧ qs.Nodup ∧ D ∉ qs ∧ ∀ q ∈ qs, H1 q = none ∧ ∃ vs, H' q = some (.lst vs) ∧ AtAll K G vs (List.replicate n d)) ?_ (fun i H' _ pq => ?_) (fun i v H' hi pq => ?_) (fun H' pq => ?_)
      · exact ⟨[], same_new hD, upd_same, rfl, List.nodup_nil, List.not_mem_nil, fun q hq => absurd hq List.not_mem_nil⟩
      · obtain ⟨qs, sm, _⟩ := pq
        exact SqL.of (sm _ _ (e1.gh _ _ l1))
      · obtain ⟨qs, sm, hd1, hl, nd, nD, hq⟩ := pq
        obtain ⟨dx, hdx, ad⟩ := l2.getV hi
        rw [List.getElem?_map] at hdx
        obtain ⟨x, hx, rfl⟩ := Option.map_eq_some_iff.mp hdx
        have hm : x ∈ xs := List.mem_of_getElem? hx
        have gh' : Same G1 H' := gl.trans sm
        have s1 : Sat K H0 G1 H' (L2.wipe σ [j]) (wipeE Γ [j]) := ((s.ext e1).wipe [j]).ext (Ext.grow gl sm)
        refine tg_name H0 G1 H' _ v s1 gh' ad _ fun σ2 s2 l2' k2 => ⟨wipe_same (by rw [l2', wipe_length]) k2, ?_⟩
        show te σ2 H' _
        refine he x hm H0 G1 H' σ2 s2 gh' _ fun q vs G2 H2 e2 hqn gq hq2 aq => ?_
        have qD : q ≠ D := fun z => by rw [z] at hqn; rw [hd1] at hqn; cases hqn
        have hil : i < xs.length := by have := (List.getElem?_eq_some_iff.mp hi).1; rw [l2.length, List.length_map] at this; exact this
        refine ⟨qs.map V.ref, e2.hh _ _ hd1, by rw [List.length_map, hl]; exact Nat.lt_of_lt_of_le hil (Nat.le_trans hz (by decide)), qs ++ [q], fun b o z => ?_, ?_, by rw [List.length_append, hl]; rfl, ?_, ?_, fun b hb => ?_⟩
        · rw [upd_ne (ne_of_none z hD)]; exact e2.hh _ _ (sm _ _ z)
        · rw [upd_same, List.map_append]; rfl
        · rw [List.nodup_append]
          refine ⟨nd, by simp, fun a ha b hb z => ?_⟩
          rw [List.mem_singleton.mp hb] at z
          subst z
          obtain ⟨_, vs', h', _⟩ := hq a ha
          rw [hqn] at h'; cases h'
        · intro hm2
          rcases List.mem_append.mp hm2 with z | z
          · exact nD z
          · exact qD (List.mem_singleton.mp z).symm
        · rcases List.mem_append.mp hb with z | z
          · obtain ⟨h1, vs', h2, h3⟩ := hq b z
            have bD : b ≠ D := fun y => nD (y ▸ z)
            exact ⟨h1, vs', by rw [upd_ne bD]; exact e2.hh _ _ h2, h3⟩
          · rw [List.mem_singleton.mp z]
            refine ⟨sm.free hqn, vs, by rw [upd_ne qD]; exact hq2, aq.scal fun y hy => ?_⟩
            rw [List.eq_of_mem_replicate hy]; exact hd
      · obtain ⟨qs, sm, hd1, hl, nd, nD, hq⟩ := pq
        have lu : us.length = xs.length := by rw [l2.length, List.length_map]
        refine q D qs H' (e1.hh.trans sm) hD0 ⟨hd1, gh.free hD0, hD0, by rw [hl, List.length_replicate, lu], nd, nD, fun i b hb => ?_⟩
        obtain ⟨h1, vs, h2, h3⟩ := hq b (List.mem_of_getElem? hb)
        have il : i < us.length := by rw [← hl]; exact (List.getElem?_eq_some_iff.mp hb).1
        have hb0 : H b = none := e1.hh.free h1
        exact ⟨vs, _, by rw [List.getElem?_replicate, if_pos (by omega)], h2, h3, gh.free hb0, hb0⟩
/-- for j in range(n), with a word of one's own on slots and heap -/
theorem raw_forR {ta : TA} {j : Nat} {n : Int} {t : TS} {D : Ends} (h : EvA K ta Γ [.int n]) (hn : 0 ≤ n ∧ n ≤ 100000) (s : Sat K H0 G H σ Γ) (gh : Same G H) (I : Nat → St → Hp → Prop) (h0 : ∀ H', Same H H' → I 0 σ H')
    (hs : ∀ (i : Nat) (σ' : St) (H' : Hp), (i : Int) < n → I i σ' H' → t { D with nx := I (i + 1), ct := I (i + 1), bk := D.nx } (σ'.set j (some (.int (i : Int)))) H') (hd : ∀ σ' H', I n.toNat σ' H' → D.nx σ' H') : tFor (iRng1 ta) (gName j) t D σ H :=
  h H0 G H σ s gh _ fun us G1 H1 e1 a1 => by
    have eu : us = [.int n] := (show AtAll K G1 us ([n].map .int) from a1).ints
    subst eu
    refine ⟨n, rfl, by omega, by omega, for_range (lo := 0) (n := n.toNat) I (h0 H1 e1.hh) (fun i σ' H' hi p => ?_) (fun σ' H' p => hd σ' H' p)⟩
    have e0 : (0 : Int) + (i : Int) = (i : Int) := Int.zero_add _
    show t _ (σ'.set j (some (.int ((0 : Int) + (i : Int))))) H'
    rw [e0]
    exact hs i σ' H' (by omega) p
theorem raw_if {tt : TT} {t u : TS} {D : Ends} {b : Bool} (h : EvT K tt Γ b) (s : Sat K H0 G H σ Γ) (gh : Same G H) (h1 : b = true → ∀ H', Same H H' → t D σ H') (h2 : b = false → ∀ H', Same H H' → u D σ H') : tIfS tt t u D σ H :=
  h H0 G H σ s gh _ fun G1 H1 e1 => by
    cases b with
    | true => exact h1 rfl H1 e1.hh
    | false => exact h2 rfl H1 e1.hh
theorem nt_newS {α : Type} {i j : Nat} {te tl : TE} {u : TS} {D : Ends} {n : Nat} {d : PyData} (xs : List α) (emb : α → PyData) (s : Sat K H0 G H σ Γ) (f : Free Γ) (gh : Same G H) (h : EvD K tl Γ (.list (xs.map emb))) (hz : xs.length ≤ 1000) (hd : scal d = true)
    (he : ∀ x ∈ xs, EvO K te ((wipeE Γ [j]).set j (.da (emb x))) (List.replicate n d))
    (q : ∀ p qs H', Same H H' → H p = none → NT K H G H' p qs (List.replicate xs.length (List.replicate n d)) → u D (σ.set i (some (.ref p))) H') : tSeq (tAsg (tLc (iList K tl) (gName j) tYes te [j]) (gName i)) u D σ H := by
  unfold tSeq tAsg
  exact nt_new xs emb s f gh h hz hd he (fun v H1 => gName i v σ H1 fun σ' H2 => u D σ' H2) q
end
end PD
namespace PD
open PySem L2
/-! ### _law_steps_by -/
def set2 (W : List (List Int)) (i k : Nat) (x : Int) : List (List Int) := W.set i ((W.getD i []).set k x)
theorem mem_set_imp {α : Type} {l : List α} {i : Nat} {a b : α} (h : b ∈ l.set i a) : b = a ∨ b ∈ l := by
  rcases List.mem_or_eq_of_mem_set h with h | h
  · exact .inr h
  · exact .inl h
theorem tab_set2 {W : List (List Int)} {n i k : Nat} {x : Int} (t : Tab W n) (hi : i < n) (hx : 0 ≤ x ∧ x ≤ 1000000) : Tab (set2 W i k x) n := by
  have hm : W.getD i [] ∈ W := getD_mem (by rw [t.len]; exact hi)
  refine ⟨by unfold set2; rw [List.length_set]; exact t.len, t.lo, t.hi, fun r hr => ?_, fun r hr y hy => ?_⟩
  · rcases mem_set_imp hr with e | e
    · rw [e, List.length_set]; exact t.row _ hm
    · exact t.row r e
  · rcases mem_set_imp hr with e | e
    · subst e
      rcases mem_set_imp hy with e | e
      · rw [e]; exact hx
      · exact t.coin _ hm y e
    · exact t.coin r e y hy
def stepsGo (cell : Int) (R O : List Nat) (n : Nat) : Nat → List (List Int)
  | 0 => List.replicate n (List.replicate n 0)
  | k + 1 =>
    let own := 10 + cell / 2 % 999980
    let a := set2 (stepsGo cell R O n k) (O.getD k 0) (R.getD (O.getD k 0) 0) own
    if k + 1 < n then set2 a (O.getD k 0) (R.getD (O.getD (k + 1) 0) 0) (own + 1) else
    if cell % 2 = 1 then set2 a (O.getD k 0) (R.getD (O.getD 0 0) 0) (own + 1) else a
theorem stepsGo_tab {cell : Int} {R O : List Nat} {n : Nat} (n1 : 1 ≤ n) (n8 : n ≤ 8) (o : Rms O n) : ∀ k, k ≤ n → Tab (stepsGo cell R O n k) n
  | 0, _ => ⟨by simp [stepsGo], n1, n8, fun r hr => by rw [List.eq_of_mem_replicate hr]; simp, fun r hr x hx => by
      rw [List.eq_of_mem_replicate hr] at hx
      rw [List.eq_of_mem_replicate hx]; exact ⟨by decide, by decide⟩⟩
  | k + 1, hk => by
    have ih := stepsGo_tab (cell := cell) (R := R) n1 n8 o k (by omega)
    have hi : O.getD k 0 < n := o.at_lt (by omega)
    have h1 : 0 ≤ 10 + cell / 2 % 999980 ∧ 10 + cell / 2 % 999980 ≤ 1000000 := ⟨by omega, by omega⟩
    have h2 : 0 ≤ 10 + cell / 2 % 999980 + 1 ∧ 10 + cell / 2 % 999980 + 1 ≤ 1000000 := ⟨by omega, by omega⟩
    unfold stepsGo
    simp only
    split
    · exact tab_set2 (tab_set2 ih hi h1) hi h2
    · split
      · exact tab_set2 (tab_set2 ih hi h1) hi h2
      · exact tab_set2 ih hi h1
def stepsBy (cell : Int) (R O : List Nat) (n : Nat) : List (List Int) := stepsGo cell R O n n
abbrev rowsD (W : List (List Int)) : List (List PyData) := W.map fun r => r.map .int
theorem rowsD_set2 {W : List (List Int)} {n i k : Nat} {x : Int} (hi : i < W.length) : (rowsD W).set i (((W.getD i []).map PyData.int).set k (.int x)) = rowsD (set2 W i k x) := by
  unfold set2 rowsD
  rw [List.map_set, List.map_set]
theorem rowsD_get {W : List (List Int)} {i : Nat} (hi : i < W.length) : (rowsD W)[i]? = some ((W.getD i []).map .int) := by
  rw [List.getElem?_map, List.getD_eq_getElem?_getD, List.getElem?_eq_getElem hi]; rfl
section
variable {K : PySem.W.Frag} {c : CA} {E : XK} {ds : List PyData} {r : Res}
def S_law_steps_by (c : CA) (ds : List PyData) (r : Res) : Prop := ∃ (cell : Int) (R O : List Nat) (n : Nat), 1 ≤ n ∧ n ≤ 8 ∧ Rms R n ∧ Rms O n ∧ ds = [.int cell, ln R, ln O] ∧ r = .ok (PD.tb (stepsBy cell R O n))
abbrev t_law_steps_by (K : PySem.W.Frag) (c : CA) (E : XK) : TS :=
  (tSeq (tAsg (tCB (rLenV K) (tCons (tVar 1) tNil)) (gName 3))
    (tSeq (tAsg (tOp rAdd3 (tC (.int 10)) (tOp rModI (tOp rDivI (tVar 0) (tC (.int 2))) (tC (.int 999980)))) (gName 4))
    (tSeq (tAsg (tLc (iList K (tVar 1)) (gName 7) tYes (tOp rMul2 (tLst (tCons (tC (.int 0)) tNil)) (tVar 3)) [7]) (gName 5))
    (tSeq (tFor (iRng1 (tCons (tVar 3) tNil)) (gName 6) (tSeq (tAsg (tVar 4) (gSub (tOp (rIx K) (tVar 5) (tOp (rIx K) (tVar 2) (tVar 6))) (tOp (rIx K) (tVar 1) (tOp (rIx K) (tVar 2) (tVar 6))) rSetL))
    (tIfS (tTest (tOp rLtI (tOp rAdd3 (tVar 6) (tC (.int 1))) (tVar 3))) (tAsg (tOp rAdd3 (tVar 4) (tC (.int 1))) (gSub (tOp (rIx K) (tVar 5) (tOp (rIx K) (tVar 2) (tVar 6))) (tOp (rIx K) (tVar 1) (tOp (rIx K) (tVar 2) (tOp rAdd3 (tVar 6) (tC (.int 1))))) rSetL)) (tIfS (tTest (tOp (rEq2 K) (tOp rModI (tVar 0) (tC (.int 2))) (tC (.int 1)))) (tAsg (tOp rAdd3 (tVar 4) (tC (.int 1))) (gSub (tOp (rIx K) (tVar 5) (tOp (rIx K) (tVar 2) (tVar 6))) (tOp (rIx K) (tVar 1) (tOp (rIx K) (tVar 2) (tC (.int 0)))) rSetL)) tNext))))
    (tRet (tVar 5))))))
abbrev N_law_steps_by : List Str := ["_law_cell", "_law_rooms", "_law_order", "_law_many", "_law_own", "_law_table", "_law_k", "_law_one"]
theorem ht_law_steps_by (h : S_law_steps_by c ds r) : HT K E (t_law_steps_by K c E) (env0 N_law_steps_by ds) (Post r) := by
  obtain ⟨cell, R, O, n, n1, n8, q, o, rfl, rfl⟩ := h
  show HT K E _ [.da (.int cell), .da (ln R), .da (ln O), .no, .no, .no, .no, .no] _
  have lR : (lnL R).length = n := by rw [List.length_map, q.len]
  refine ht_seq (ht_asg (d := .int (n : Int)) (evd_eq (ev_lenL (ev_var rfl)) (by rw [lR])) ?_)
  refine ht_seq (ht_asg (ev_add ev_int (ev_mod (ev_div (ev_var rfl) ev_int ⟨by decide, by decide⟩) ev_int (by decide))) ?_)
  show HT K E _ [.da (.int cell), .da (ln R), .da (ln O), .da (.int (n : Int)), .da (.int (10 + cell / 2 % 999980)), .no, .no, .no] _
  generalize hown : 10 + cell / 2 % 999980 = own
  intro H0 G H σ D s gh h0 m
  have fr : ∀ s5 s6 : Sl, (s5 = .no ∨ ∃ a, s5 = .rf a) → (s6 = .no ∨ ∃ d, s6 = .da d) → Free [.da (.int cell), .da (ln R), .da (ln O), .da (.int (n : Int)), .da (.int own), s5, s6, .no] := fun s5 s6 h5 h6 i x z => by
    have hi : i < 8 := (List.getElem?_eq_some_iff.mp z).1
    match i, hi, z with
    | 0, _, z => cases z; exact ⟨fun _ y => (nomatch y), fun _ y => (nomatch y)⟩
    | 1, _, z => cases z; exact ⟨fun _ y => (nomatch y), fun _ y => (nomatch y)⟩
    | 2, _, z => cases z; exact ⟨fun _ y => (nomatch y), fun _ y => (nomatch y)⟩
    | 3, _, z => cases z; exact ⟨fun _ y => (nomatch y), fun _ y => (nomatch y)⟩
    | 4, _, z => cases z; exact ⟨fun _ y => (nomatch y), fun _ y => (nomatch y)⟩
    | 5, _, z =>
      cases z
      rcases h5 with rfl | ⟨a, rfl⟩ <;> exact ⟨fun _ y => (nomatch y), fun _ y => (nomatch y)⟩
    | 6, _, z =>
      cases z
      rcases h6 with rfl | ⟨a, rfl⟩ <;> exact ⟨fun _ y => (nomatch y), fun _ y => (nomatch y)⟩
    | 7, _, z => cases z; exact ⟨fun _ y => (nomatch y), fun _ y => (nomatch y)⟩
  have f0 := fr .no .no (.inl rfl) (.inl rfl)
  refine nt_newS (n := n) (d := .int 0) R (fun r : Nat => .int (r : Int)) s f0 gh (ev_var rfl) (by rw [q.len]; omega) rfl (fun x _ => evo_eq (ev_rep (n := (n : Int)) (EvO.toD (eo_lst (ea_cons ev_int ea_nil) (by simp))) (ev_var rfl) (by omega)) (by rw [Int.toNat_natCast])) fun p qs H1 hh hp nt => ?_
  have f1 := fun s6 h6 => fr (.rf p) s6 (.inr ⟨p, rfl⟩) h6
  have gh1 : Same G H1 := gh.trans hh
  have s1 : Sat K H0 G H1 (σ.set 5 (some (.ref p))) [.da (.int cell), .da (ln R), .da (ln O), .da (.int (n : Int)), .da (.int own), .rf p, .no, .no] := (s.free f0).setR
  have nt1 : NT K H0 G H1 p qs (rowsD (stepsGo cell R O n 0)) := by
    refine ⟨nt.hp, nt.gp, h0.free nt.h0, ?_, nt.nd, nt.pn, fun i b hb => ?_⟩
    · rw [nt.len, q.len]; simp [stepsGo]
    · obtain ⟨vs, row, k1, k2, k3, k4, k5⟩ := nt.row i b hb
      refine ⟨vs, row, ?_, k2, k3, k4, h0.free k5⟩
      rw [← k1, q.len]
      simp [stepsGo, rowsD, List.map_replicate]
  refine raw_forR (n := (n : Int)) (ea_cons (ev_var rfl) ea_nil) (by omega) s1 gh1 (fun i σ' H' => ∃ s6, (s6 = .no ∨ ∃ d, s6 = .da d) ∧ Same H0 H' ∧ Same G H' ∧ Sat K H0 G H' σ' [.da (.int cell), .da (ln R), .da (ln O), .da (.int (n : Int)), .da (.int own), .rf p, s6, .no] ∧ NT K H0 G H' p qs (rowsD (stepsGo cell R O n i)))
    (fun H2 e2 => ⟨.no, .inl rfl, (h0.trans hh).trans e2, gh1.trans e2, s1.free (f1 _ (.inl rfl)), nt1.grow e2⟩) (fun i σ' H' hi pq => ?_) (fun σ' H' pq => ?_)
  · obtain ⟨s6, h6, hh', gh', s', nt'⟩ := pq
    have hi : i < n := by omega
    have si : Sat K H0 G H' (σ'.set 6 (some (.int (i : Int)))) [.da (.int cell), .da (ln R), .da (ln O), .da (.int (n : Int)), .da (.int own), .rf p, .da (.int (i : Int)), .no] := s'.setD (i := 6) (.int (i : Int))
    have fi := f1 (.da (.int (i : Int))) (.inr ⟨_, rfl⟩)
    have o1 : O.getD i 0 < n := o.at_lt hi
    have T := stepsGo_tab (cell := cell) (R := R) n1 n8 o i (by omega)
    have lo1 : O.getD i 0 < (stepsGo cell R O n i).length := by rw [T.len]; exact o1
    dsimp only [tSeq]
    refine nt_set (x := .int own) si fi gh' hh' (si.rf 5 p rfl) nt' (ev_var rfl) rfl (ev_roomOf o (ev_var rfl) (ev_var rfl) hi) (ev_roomOf q (ev_var rfl) (ev_roomOf o (ev_var rfl) (ev_var rfl) hi) o1) (rowsD_get lo1) (by rw [List.length_map, T.row_len o1]; exact q.at_lt o1) fun H3 hh3 gh3 s3 nt3 => ?_
    rw [rowsD_set2 (n := n) lo1] at nt3
    have T3 : Tab (set2 (stepsGo cell R O n i) (O.getD i 0) (R.getD (O.getD i 0) 0) own) n := tab_set2 T o1 (by omega)
    have lo3 : O.getD i 0 < (set2 (stepsGo cell R O n i) (O.getD i 0) (R.getD (O.getD i 0) 0) own).length := by rw [T3.len]; exact o1
    dsimp only
    refine raw_if (b := decide (i + 1 < n)) (evt_eq (et_test (ev_lt (ev_add (ev_var rfl) ev_int) (ev_var rfl))) (by rw [decide_eq_decide]; omega)) s3 gh3 (fun hl H4 e4 => ?_) (fun hl H4 e4 => ?_)
    · have hl := of_decide_eq_true hl
      have o2 : O.getD (i + 1) 0 < n := o.at_lt hl
      refine nt_set (x := .int (own + 1)) (s3.free fi) fi (gh3.trans e4) (hh3.trans e4) (si.rf 5 p rfl) (nt3.grow e4) (ev_add (ev_var rfl) ev_int) rfl (ev_roomOf o (ev_var rfl) (ev_var rfl) hi) (ev_roomOf q (ev_var rfl) (ev_roomOf (i := i + 1) o (ev_var rfl) (evd_eq (ev_add (ev_var rfl) ev_int) (congrArg PyData.int (by push_cast; rfl))) hl) o2) (rowsD_get lo3) (by rw [List.length_map, T3.row_len o1]; exact q.at_lt o2) fun H5 hh5 gh5 s5 nt5 => ?_
      rw [rowsD_set2 (n := n) lo3] at nt5
      refine ⟨.da (.int (i : Int)), .inr ⟨_, rfl⟩, hh5, gh5, s5, ?_⟩
      have e : stepsGo cell R O n (i + 1) = set2 (set2 (stepsGo cell R O n i) (O.getD i 0) (R.getD (O.getD i 0) 0) own) (O.getD i 0) (R.getD (O.getD (i + 1) 0) 0) (own + 1) := by
        rw [stepsGo]; rw [if_pos hl, hown]
      rw [e]; exact nt5
    · have hl := of_decide_eq_false hl
      refine raw_if (b := decide (cell % 2 = 1)) (et_test (ev_eqI (ev_mod (ev_var rfl) ev_int (by decide)) ev_int)) (s3.free fi) (gh3.trans e4) (fun hc H5 e5 => ?_) (fun hc H5 e5 => ?_)
      · have hc := of_decide_eq_true hc
        have hh45 : Same H3 H5 := e4.trans e5
        have o2 : O.getD 0 0 < n := o.at_lt (by omega)
        refine nt_set (x := .int (own + 1)) (s3.free fi) fi (gh3.trans hh45) (hh3.trans hh45) (si.rf 5 p rfl) (nt3.grow hh45) (ev_add (ev_var rfl) ev_int) rfl (ev_roomOf o (ev_var rfl) (ev_var rfl) hi) (ev_roomOf q (ev_var rfl) (ev_roomOf (i := 0) o (ev_var rfl) ev_int (by omega)) o2) (rowsD_get lo3) (by rw [List.length_map, T3.row_len o1]; exact q.at_lt o2) fun H6 hh6 gh6 s6' nt6 => ?_
        rw [rowsD_set2 (n := n) lo3] at nt6
        refine ⟨.da (.int (i : Int)), .inr ⟨_, rfl⟩, hh6, gh6, s6', ?_⟩
        have e : stepsGo cell R O n (i + 1) = set2 (set2 (stepsGo cell R O n i) (O.getD i 0) (R.getD (O.getD i 0) 0) own) (O.getD i 0) (R.getD (O.getD 0 0) 0) (own + 1) := by
          rw [stepsGo]; rw [if_neg hl, if_pos hc, hown]
        rw [e]; exact nt6
      · have hc := of_decide_eq_false hc
        have hh45 : Same H3 H5 := e4.trans e5
        refine ⟨.da (.int (i : Int)), .inr ⟨_, rfl⟩, hh3.trans hh45, gh3.trans hh45, s3.free fi, ?_⟩
        have e : stepsGo cell R O n (i + 1) = set2 (stepsGo cell R O n i) (O.getD i 0) (R.getD (O.getD i 0) 0) own := by
          rw [stepsGo]; rw [if_neg hl, if_neg hc, hown]
        rw [e]; exact nt3.grow hh45
  · obtain ⟨s6, h6, hh', gh', s', nt'⟩ := pq
    obtain ⟨G', g1, g2, at', new⟩ := nt'.freeze gh'
    refine ⟨_, s'.rf 5 p rfl, m.rt (PD.tb (stepsBy cell R O n)) _ G' H' rfl ⟨hh', g1, g2, new⟩ ?_⟩
    rw [Int.toNat_natCast] at at'
    have e : PyData.list ((rowsD (stepsGo cell R O n n)).map .list) = PD.tb (stepsBy cell R O n) := by
      unfold stepsBy rowsD
      rw [List.map_map]; rfl
    rw [← e]; exact at'
theorem stepsBy_tab {cell : Int} {R O : List Nat} {n : Nat} (n1 : 1 ≤ n) (n8 : n ≤ 8) (o : Rms O n) : Tab (stepsBy cell R O n) n := stepsGo_tab n1 n8 o n (Nat.le_refl _)
end
end PD

set_option Elab.async false
set_option linter.all false
set_option maxRecDepth 100000
set_option maxHeartbeats 1000000
/-! Prices at which nobody prefers; what the whole laws have in common. -/
namespace PD
open PySem L2
section
variable {W : List (List Int)} {R : List Nat} {n : Nat} {w : Wy}
theorem Rms.has (q : Rms R n) {r : Nat} (h : r < n) : ∃ j, j < n ∧ R.getD j 0 = r := by
  by_cases hm : r ∈ R
  · obtain ⟨p, hp, e⟩ := mem_getD hm
    exact ⟨p, by rw [← q.len]; exact hp, e⟩
  · exfalso
    have := nodup_le (n := n) (Q := r :: R) (fun x hx => by
      rcases List.mem_cons.mp hx with e | e
      · rw [e]; exact h
      · exact q.lt x e) (List.nodup_cons.mpr ⟨hm, q.nd⟩)
    rw [List.length_cons, q.len] at this
    omega
theorem price_ge {i j : Nat} (hi : i < n) : (w i j).1 ≤ priceOf w n j := le_maxL (List.mem_map.mpr ⟨i, List.mem_range.mpr hi, rfl⟩)
theorem price_at {j : Nat} (hn : 1 ≤ n) : ∃ i, i < n ∧ (w i j).1 = priceOf w n j := by
  have h := maxL_mem (ns := (List.range n).map fun i => (w i j).1) (fun z => by
    have := congrArg List.length z
    simp at this
    omega)
  obtain ⟨i, hi, e⟩ := List.mem_map.mp h
  exact ⟨i, List.mem_range.mp hi, e⟩
theorem Calm.price0 (C : Calm W R n w) {j : Nat} (hj : j < n) : 0 ≤ priceOf w n j := by
  have h1 := price_ge (w := w) (n := n) (i := j) (j := j) hj
  have h2 := C.dg j hj
  omega
theorem Calm.price (C : Calm W R n w) {j k : Nat} (hj : j < n) (hk : k < n) : priceOf w n j + gn W R j k ≤ priceOf w n k := by
  obtain ⟨i, hi, e⟩ := price_at (w := w) (n := n) (j := j) (by omega)
  have h1 := C.cl i j k hi hj hk
  have h2 := price_ge (w := w) (n := n) (i := i) (j := k) hi
  omega
theorem prGo_on (q : Rms R n) : ∀ {k : Nat}, k ≤ n → ∀ j, j < k → (prGo R w n k).getD (R.getD j 0) 0 = priceOf w n j
  | 0, _, j, hj => absurd hj (Nat.not_lt_zero _)
  | k + 1, hk, j, hj => by
    unfold prGo
    by_cases e : j = k
    · subst e
      rw [List.getD_eq_getElem?_getD, List.getElem?_set_self (by rw [prGo_len]; exact q.at_lt (by omega))]; rfl
    · rw [List.getD_eq_getElem?_getD, List.getElem?_set_ne (fun z => e (getD_inj q.nd (by rw [q.len]; omega) (by rw [q.len]; omega) z).symm), ← List.getD_eq_getElem?_getD]
      exact prGo_on q (by omega) j (by omega)
theorem prs_at (q : Rms R n) {j : Nat} (hj : j < n) : (prs W R n).getD (R.getD j 0) 0 = priceOf (bw W R n).2 n j := prGo_on q (Nat.le_refl _) j hj
theorem prGo_nn (C : Calm W R n w) : ∀ {k : Nat}, k ≤ n → ∀ x ∈ prGo R w n k, 0 ≤ x
  | 0, _, x, hx => by rw [List.eq_of_mem_replicate hx]; exact Int.le_refl _
  | k + 1, hk, x, hx => by
    rcases mem_set_imp hx with e | e
    · rw [e]; exact C.price0 (by omega)
    · exact prGo_nn C (by omega) x e
/-- nobody prefers another room -/
def NoPref (W : List (List Int)) (R : List Nat) (n : Nat) (ps : List Int) : Prop := ∀ i k, i < n → k < n → cell W i k - ps.getD k 0 ≤ cell W i (R.getD i 0) - ps.getD (R.getD i 0) 0
theorem prs_calm (q : Rms R n) (e : (bw W R n).1 = none) : (∀ x ∈ prs W R n, 0 ≤ x) ∧ NoPref W R n (prs W R n) := by
  have C := bw_calm e
  refine ⟨fun x hx => prGo_nn C (Nat.le_refl _) x hx, fun i k hi hk => ?_⟩
  obtain ⟨j, hj, rfl⟩ := q.has hk
  rw [prs_at q hj, prs_at q hi]
  have h := C.price hi hj
  unfold gn at h
  omega
/-! ### best of all -/
theorem perm_sum {l l' : List Int} (h : l.Perm l') : l.sum = l'.sum := by
  induction h with
  | nil => rfl
  | cons x _ ih => rw [List.sum_cons, List.sum_cons, ih]
  | swap x y l => rw [List.sum_cons, List.sum_cons, List.sum_cons, List.sum_cons]; omega
  | trans _ _ h1 h2 => exact h1.trans h2
theorem sum_perm {f : Nat → Int} (q : Rms R n) : ((List.range n).map fun i => f (R.getD i 0)).sum = ((List.range n).map f).sum := by
  have e1 : ((List.range n).map fun i => f (R.getD i 0)) = R.map f := by
    refine List.ext_getElem? fun i => ?_
    rw [List.getElem?_map, List.getElem?_map]
    by_cases hi : i < n
    · rw [List.getElem?_range hi, List.getElem?_eq_getElem (by rw [q.len]; exact hi)]
      show some (f (R.getD i 0)) = _
      rw [List.getD_eq_getElem?_getD, List.getElem?_eq_getElem (by rw [q.len]; exact hi)]
      rfl
    · rw [List.getElem?_eq_none (by simp; omega), List.getElem?_eq_none (by rw [q.len]; omega)]; rfl
  rw [e1]
  have p : R.Perm (List.range n) := by
    refine (List.perm_ext_iff_of_nodup q.nd List.nodup_range).mpr fun a => ⟨fun h => List.mem_range.mpr (q.lt a h), fun h => ?_⟩
    obtain ⟨j, hj, e⟩ := q.has (List.mem_range.mp h)
    rw [← e]
    exact getD_mem (by rw [q.len]; exact hj)
  exact perm_sum (p.map f)
theorem sum_mono {f g : Nat → Int} : ∀ {l : List Nat}, (∀ x ∈ l, f x ≤ g x) → (l.map f).sum ≤ (l.map g).sum
  | [], _ => Int.le_refl _
  | a :: l, h => by
    have h1 := h a List.mem_cons_self
    have ih := sum_mono (f := f) (g := g) (l := l) fun x hx => h x (List.mem_cons_of_mem _ hx)
    rw [List.map_cons, List.map_cons, List.sum_cons, List.sum_cons]
    omega
theorem sum_sub {f g : Nat → Int} : ∀ {l : List Nat}, (l.map fun x => f x - g x).sum = (l.map f).sum - (l.map g).sum
  | [] => rfl
  | a :: l => by
    have ih := sum_sub (f := f) (g := g) (l := l)
    rw [List.map_cons, List.map_cons, List.map_cons, List.sum_cons, List.sum_cons, List.sum_cons, ih]
    omega
theorem noPref_best {ps : List Int} {R' : List Nat} (q : Rms R n) (q' : Rms R' n) (h : NoPref W R n ps) : tot W R' ≤ tot W R := by
  have h1 : ((List.range n).map fun i => cell W i (R'.getD i 0) - ps.getD (R'.getD i 0) 0).sum ≤ ((List.range n).map fun i => cell W i (R.getD i 0) - ps.getD (R.getD i 0) 0).sum :=
    sum_mono fun i hi => h i _ (List.mem_range.mp hi) (q'.at_lt (List.mem_range.mp hi))
  rw [sum_sub (f := fun i => cell W i (R'.getD i 0)) (g := fun i => ps.getD (R'.getD i 0) 0), sum_sub (f := fun i => cell W i (R.getD i 0)) (g := fun i => ps.getD (R.getD i 0) 0)] at h1
  have e1 := sum_perm (f := fun r => ps.getD r 0) q
  have e2 := sum_perm (f := fun r => ps.getD r 0) q'
  unfold tot
  rw [q.len, q'.len]
  omega
end
/-! ### what the laws call -/
section
variable {K : PySem.W.Frag} {c : CA} {E : XK} {Γ : Env} {ds : List PyData} {r : Res} {t0 t1 t2 : TE}
def manyBy (x : Int) : Nat := if x / 4 % 8 = 1 then (5 + x % 4).toNat else (1 + x % 4).toNat
theorem manyBy_ok (x : Int) : 1 ≤ manyBy x ∧ manyBy x ≤ 8 := by
  unfold manyBy
  split <;> omega
def S_law_many_by (c : CA) (ds : List PyData) (r : Res) : Prop := ∃ x : Int, ds = [.int x] ∧ r = .ok (.int (manyBy x : Int))
abbrev t_law_many_by (K : PySem.W.Frag) (c : CA) (E : XK) : TS :=
  (tSeq (tIfS (tTest (tOp (rEq2 K) (tOp rModI (tOp rDivI (tVar 0) (tC (.int 4))) (tC (.int 8))) (tC (.int 1)))) (tRet (tOp rAdd3 (tC (.int 5)) (tOp rModI (tVar 0) (tC (.int 4))))) tNext)
    (tRet (tOp rAdd3 (tC (.int 1)) (tOp rModI (tVar 0) (tC (.int 4))))))
abbrev N_law_many_by : List Str := ["_law_cell"]
theorem ht_law_many_by (h : S_law_many_by c ds r) : HT K E (t_law_many_by K c E) (env0 N_law_many_by ds) (Post r) := by
  obtain ⟨x, rfl, rfl⟩ := h
  show HT K E _ [.da (.int x)] _
  refine ht_seq (ht_if (et_test (ev_eqI (ev_mod (ev_div (ev_var rfl) ev_int ⟨by decide, by decide⟩) ev_int (by decide)) ev_int)) (fun h => ?_) (fun h => ht_next ?_))
  · have h := of_decide_eq_true h
    refine ht_ret (ev_add ev_int (ev_mod (ev_var rfl) ev_int (by decide))) ?_
    show PyData.int _ = .int _
    congr 1
    unfold manyBy
    rw [if_pos h]; omega
  · have h := of_decide_eq_false h
    refine ht_ret (ev_add ev_int (ev_mod (ev_var rfl) ev_int (by decide))) ?_
    show PyData.int _ = .int _
    congr 1
    unfold manyBy
    rw [if_neg h]; omega
def S_law_calm (c : CA) (ds : List PyData) (r : Res) : Prop := ∃ (W : List (List Int)) (R : List Nat) (n : Nat) (ps : List Int), Tab W n ∧ Rms R n ∧ ps.length = n ∧ (∀ x ∈ ps, 0 ≤ x) ∧ NoPref W R n ps ∧ ds = [PD.tb W, ln R, li ps] ∧ r = .ok (.bool true)
abbrev t_law_calm (K : PySem.W.Frag) (c : CA) (E : XK) : TS :=
  (tSeq (tIfS (tOr (tNot (tB (tCB (rIsi K) (tCons (tVar 2) (tCons (tC (.ty "list")) tNil))))) (tTest (tOp (rNe2 K) (tCB (rLenV K) (tCons (tVar 2) tNil)) (tCB (rLenV K) (tCons (tVar 1) tNil))))) (tRet (tC (.bl false))) tNext)
    (tSeq (tFor (iList K (tVar 2)) (gName 3) (tIfS (tOr (tNot (tB (tCall (spOf K (S_law_whole c)) [] E (tCons (tVar 3) tNil)))) (tTest (tOp rLtI (tVar 3) (tC (.int 0))))) (tRet (tC (.bl false))) tNext))
    (tSeq (tFor (iRng1 (tCons (tCB (rLenV K) (tCons (tVar 1) tNil)) tNil)) (gName 4) (tSeq (tAsg (tOp rSubI (tOp (rIx K) (tOp (rIx K) (tVar 0) (tVar 4)) (tOp (rIx K) (tVar 1) (tVar 4))) (tOp (rIx K) (tVar 2) (tOp (rIx K) (tVar 1) (tVar 4)))) (gName 5))
    (tFor (iRng1 (tCons (tCB (rLenV K) (tCons (tVar 1) tNil)) tNil)) (gName 6) (tIfS (tTest (tOp rGtI (tOp rSubI (tOp (rIx K) (tOp (rIx K) (tVar 0) (tVar 4)) (tVar 6)) (tOp (rIx K) (tVar 2) (tVar 6))) (tVar 5))) (tRet (tC (.bl false))) tNext))))
    (tRet (tC (.bl true))))))
abbrev N_law_calm : List Str := ["_law_table", "_law_rooms", "_law_costs", "_law_cost", "_law_one", "_law_own", "_law_room"]
theorem ht_law_calm (h : S_law_calm c ds r) : HT K E (t_law_calm K c E) (env0 N_law_calm ds) (Post r) := by
  obtain ⟨W, R, n, ps, t, q, lp, h0, np, rfl, rfl⟩ := h
  show HT K E _ [.da (PD.tb W), .da (ln R), .da (li ps), .no, .no, .no, .no] _
  have n8 := t.hi
  have lR : (lnL R).length = n := by rw [List.length_map, q.len]
  have lp' : (ps.map PyData.int).length = n := by rw [List.length_map, lp]
  refine ht_seq (ht_if (b := false) (evt_eq (et_or (et_not (et_B (ev_isi (ev_var rfl) (kit_list _)))) fun _ => et_test (ev_neI (ev_lenL (ev_var rfl)) (ev_lenL (ev_var rfl)))) (by rw [lR, lp']; simp [isList])) (fun z => nomatch z) fun _ => ht_next ?_)
  refine ht_seq (ht_forN ps PyData.int (fun i Γ' => ∃ s, Γ' = [.da (PD.tb W), .da (ln R), .da (li ps), s, .no, .no, .no]) (ev_var rfl) ⟨_, rfl⟩ ?_ ?_)
  · rintro i x Γ' hi ⟨s, rfl⟩
    have hx := h0 x (List.mem_of_getElem? hi)
    exact ht_if (b := false) (evt_eq (et_or (et_not (et_B (ev_wholeL (d := .int x) (ev_var rfl)))) fun _ => et_test (ev_lt (ev_var rfl) ev_int)) (by simp [whole]; omega)) (fun z => nomatch z) fun _ => ht_next ⟨_, rfl⟩
  · rintro Γ' ⟨s, rfl⟩
    refine ht_seq (ht_forR (n := (n : Int)) (fun i Γ' => ∃ s4 s5 s6, Γ' = [.da (PD.tb W), .da (ln R), .da (li ps), s, s4, s5, s6]) (ea_cons (evd_eq (ev_lenL (ev_var rfl)) (by rw [lR])) ea_nil) (by omega) ⟨_, _, _, rfl⟩ ?_ ?_)
    · rintro i Γ' hi ⟨s4, s5, s6, rfl⟩
      have hi : i < n := by omega
      have hr := q.at_lt hi
      refine ht_seq (ht_asg (ev_sub (ev_cell t (ev_var rfl) (ev_var rfl) (ev_roomOf q (ev_var rfl) (ev_var rfl) hi) hi hr) (ev_at (ev_var rfl) (ev_roomOf q (ev_var rfl) (ev_var rfl) hi) (by omega))) ?_)
      refine ht_forR (n := (n : Int)) (fun m Γ' => ∃ s6, Γ' = [.da (PD.tb W), .da (ln R), .da (li ps), s, .da (.int (i : Int)), .da (.int (cell W i (R.getD i 0) - ps.getD (R.getD i 0) 0)), s6]) (ea_cons (evd_eq (ev_lenL (ev_var rfl)) (by rw [lR])) ea_nil) (by omega) ⟨s6, rfl⟩ ?_ ?_
      · rintro m Γ' hm ⟨s6, rfl⟩
        have hm : m < n := by omega
        have := np i m hi hm
        exact ht_if (b := false) (evt_eq (et_test (ev_gt (ev_sub (ev_cell t (ev_var rfl) (ev_var rfl) (ev_var rfl) hi hm) (ev_at (ev_var rfl) (ev_var rfl) (by omega))) (ev_var rfl))) (decide_eq_false (by omega))) (fun z => nomatch z) fun _ => ht_next ⟨_, rfl⟩
      · rintro Γ' ⟨s6, rfl⟩
        exact ⟨_, _, _, rfl⟩
    · rintro Γ' ⟨s4, s5, s6, rfl⟩
      exact ht_ret ev_bl rfl
def S_law_places (c : CA) (ds : List PyData) (r : Res) : Prop := ∃ (Q : List Nat) (m : Nat), Q.length ≤ 1000 ∧ (∀ x ∈ Q, x < m) ∧ Q.Nodup ∧ ds = [ln Q, .int (m : Int), .int (Q.length : Int)] ∧ r = .ok (.bool true)
abbrev t_law_places (K : PySem.W.Frag) (c : CA) (E : XK) : TS :=
  (tSeq (tIfS (tOr (tNot (tB (tCB (rIsi K) (tCons (tVar 0) (tCons (tC (.ty "list")) tNil))))) (tTest (tOp (rNe2 K) (tCB (rLenV K) (tCons (tVar 0) tNil)) (tVar 2)))) (tRet (tC (.bl false))) tNext)
    (tSeq (tFor (iRng1 (tCons (tVar 2) tNil)) (gName 3) (tIfS (tOr (tNot (tB (tCall (spOf K (S_law_whole c)) [] E (tCons (tOp (rIx K) (tVar 0) (tVar 3)) tNil)))) (tOr (tTest (tOp rLtI (tOp (rIx K) (tVar 0) (tVar 3)) (tC (.int 0)))) (tOr (tTest (tOp rGeI (tOp (rIx K) (tVar 0) (tVar 3)) (tVar 1))) (tTest (tOp (rIn K false) (tOp (rIx K) (tVar 0) (tVar 3)) (tSl (rSlL K) (tVar 0) tNoPart (tPart (tVar 3)))))))) (tRet (tC (.bl false))) tNext))
    (tRet (tC (.bl true)))))
abbrev N_law_places : List Str := ["_law_row", "_law_many", "_law_size", "_law_k"]
theorem lnL_take2 (R : List Nat) (k : Nat) : (lnL R).take k = lnL (R.take k) := List.map_take.symm
theorem ht_law_places (h : S_law_places c ds r) : HT K E (t_law_places K c E) (env0 N_law_places ds) (Post r) := by
  obtain ⟨Q, m, hz, h1, h2, rfl, rfl⟩ := h
  show HT K E _ [.da (ln Q), .da (.int (m : Int)), .da (.int (Q.length : Int)), .no] _
  have lQ : (lnL Q).length = Q.length := by rw [List.length_map]
  refine ht_seq (ht_if (b := false) (evt_eq (et_or (et_not (et_B (ev_isi (ev_var rfl) (kit_list _)))) fun _ => et_test (ev_neI (ev_lenL (ev_var rfl)) (ev_var rfl))) (by rw [lQ]; simp [isList])) (fun z => nomatch z) fun _ => ht_next ?_)
  refine ht_seq (ht_forR (n := (Q.length : Int)) (fun i Γ' => ∃ s, Γ' = [.da (ln Q), .da (.int (m : Int)), .da (.int (Q.length : Int)), s]) (ea_cons (ev_var rfl) ea_nil) (by omega) ⟨_, rfl⟩ ?_ ?_)
  · rintro i Γ' hi ⟨s, rfl⟩
    have hi : i < Q.length := by omega
    have hx := h1 _ (getD_mem (d := 0) hi)
    have hn : ¬ ((Q.getD i 0 : Nat) : Int) ∈ ((Q.take i).map fun r : Nat => (r : Int)) := fun z => by
      obtain ⟨y, hy, e⟩ := List.mem_map.mp z
      obtain ⟨p, hp, e2⟩ := mem_getD hy
      rw [List.length_take] at hp
      have hp' : p < i := by omega
      have e3 : (Q.take i).getD p 0 = Q.getD p 0 := by
        rw [List.getD_eq_getElem?_getD, List.getD_eq_getElem?_getD, List.getElem?_take, if_pos hp']
      have : p = i := getD_inj h2 (by omega) hi (by rw [← e3, e2]; omega)
      omega
    have it := ev_room (K := K) (Γ := [.da (ln Q), .da (.int (m : Int)), .da (.int (Q.length : Int)), .da (.int (i : Int))]) (ta := tVar 0) (tb := tVar 3) (R := Q) (i := i) (ev_var rfl) (ev_var rfl) hi
    refine ht_if (b := false) (evt_eq (et_or (et_not (et_B (ev_wholeL it))) fun _ => et_or (et_test (ev_lt it ev_int)) fun _ => et_or (et_test (ev_ge it (ev_var rfl))) fun _ => et_test (ev_inI (ns := (Q.take i).map fun r : Nat => (r : Int)) it (evd_eq (EvO.toD (eo_take (p := i) (ev_var rfl) (ev_var rfl))) ?_))) ?_) (fun z => nomatch z) fun _ => ht_next ⟨_, rfl⟩
    · rw [lnL_take2]
      rw [List.map_map]; rfl
    · rw [decide_eq_false hn]
      simp [whole, -List.getD_eq_getElem?_getD]
      omega
  · rintro Γ' ⟨s, rfl⟩
    exact ht_ret ev_bl rfl
theorem ev_places {Q : List Nat} {m : Nat} (hz : Q.length ≤ 1000) (h1 : ∀ x ∈ Q, x < m) (h2 : Q.Nodup) (h0 : EvD K t0 Γ (ln Q)) (hm : EvD K t1 Γ (.int (m : Int))) (hl : EvD K t2 Γ (.int (Q.length : Int))) :
    EvD K (tCall (spOf K (S_law_places c)) [] E (tCons t0 (tCons t1 (tCons t2 tNil)))) Γ (.bool true) := ev_call (ea_cons h0 (ea_two hm hl)) ⟨Q, m, hz, h1, h2, rfl, rfl⟩
theorem ev_calm {W : List (List Int)} {R : List Nat} {n : Nat} (t : Tab W n) (q : Rms R n) (e : (bw W R n).1 = none) (h0 : EvD K t0 Γ (PD.tb W)) (h1 : EvD K t1 Γ (ln R)) (h2 : EvD K t2 Γ (li (prs W R n))) :
    EvD K (tCall (spOf K (S_law_calm c)) [] E (tCons t0 (tCons t1 (tCons t2 tNil)))) Γ (.bool true) := by
  obtain ⟨z1, z2⟩ := prs_calm q e
  exact ev_call (ea_cons h0 (ea_two h1 h2)) ⟨W, R, n, prs W R n, t, q, prs_len, z1, z2, rfl, rfl⟩
end
end PD

set_option Elab.async false
set_option linter.all false
set_option maxRecDepth 100000
set_option maxHeartbeats 1000000
/-! A pair of new lists; dealt. -/
namespace PD
open PySem L2
section
variable {K : PySem.W.Frag} {E : XK} {H0 G H : Hp} {σ : St} {Γ : Env} {D : Ends} {te : TE}
theorem raw_drop {d : PyData} (h : EvD K te Γ d) (s : Sat K H0 G H σ Γ) (gh : Same G H) (k : ∀ G' H', Ext G H G' H' → Sat K H0 G' H' σ Γ → D.nx σ H') : tDrop te D σ H := h H0 G H σ s gh _ fun v G1 H1 e1 a1 => k G1 H1 e1 (s.ext e1)
theorem raw_asg {d : PyData} {i : Nat} (h : EvD K te Γ d) (s : Sat K H0 G H σ Γ) (gh : Same G H) (k : ∀ v G' H', Ext G H G' H' → Sat K H0 G' H' (σ.set i (some v)) (Γ.set i (.da d)) → D.nx (σ.set i (some v)) H') : tAsg te (gName i) D σ H := h H0 G H σ s gh _ fun v G1 H1 e1 a1 => k v G1 H1 e1 ((s.ext e1).setD a1)
theorem raw_asgO {ds : List PyData} {i : Nat} (h : EvO K te Γ ds) (s : Sat K H0 G H σ Γ) (gh : Same G H) (k : ∀ p vs G' H', Ext G H G' H' → H p = none → G' p = none → H' p = some (.lst vs) → AtAll K G' vs ds → Sat K H0 G' H' σ Γ → D.nx (σ.set i (some (.ref p))) H') : tAsg te (gName i) D σ H := h H0 G H σ s gh _ fun p vs G1 H1 e1 h1 g1 h2 a1 => k p vs G1 H1 e1 h1 g1 h2 a1 (s.ext e1)
theorem raw_ret {d : PyData} (h : EvD K te Γ d) (s : Sat K H0 G H σ Γ) (gh : Same G H) (k : ∀ v G' H', Ext G H G' H' → At K G' v d → D.rt v H') : tRet te D σ H := h H0 G H σ s gh _ fun v G1 H1 e1 a1 => k v G1 H1 e1 a1
end
section
variable {K : PySem.W.Frag} {E : XK} {H0 G G' H H' : Hp} {σ : St} {Γ : Env} {D : Ends} {te : TE}
theorem Sat.gup (s : Sat K H0 G H σ Γ) (f : Free Γ) (e : Same G G') : Sat K H0 G' H' σ Γ :=
  ⟨s.len, fun i d q => by obtain ⟨v, h1, h2⟩ := s.da i d q; exact ⟨v, h1, h2.up e⟩, fun i ds q => absurd rfl ((f i _ q).1 ds), fun i j di dj p q1 => absurd rfl ((f i _ q1).1 di), fun i ks q => absurd rfl ((f i _ q).2 ks), fun i j di dj p q1 => absurd rfl ((f i _ q1).2 di),
    fun i v o q => ⟨(s.fx i v o q).1, fun d z => ((s.fx i v o q).2 d z).up e⟩⟩
theorem raw_pair {i : Nat} {v : V} {es : List PyData} (hσ : σ[i]? = some (some v)) (h : EvO K te Γ es) (s : Sat K H0 G H σ Γ) (gh : Same G H)
    (k : ∀ q us G' H' t, Ext G H G' H' → H q = none → G' q = none → H' q = some (.lst us) → AtAll K G' us es → H' t = none → D.rt (.ref t) (upd H' t (.tup [v, .ref q]))) : tRet (tTup (tCons (tVar i) (tCons te tNil))) D σ H :=
  ⟨v, hσ, h H0 G H σ s gh _ fun q us G1 H1 e1 h1 g1 h2 a1 => ⟨show 2 ≤ sizeLine by decide, fun t ht => k q us G1 H1 t e1 h1 g1 h2 a1 ht⟩⟩
end
theorem free_nil : Free [] := fun i x z => by simp at z
theorem free_cons {x : Sl} {Γ : Env} (h : (∀ ds, x ≠ .ow ds) ∧ ∀ ks, x ≠ .od ks) (f : Free Γ) : Free (x :: Γ) := fun i y z => by
  cases i with
  | zero => simp at z; subst z; exact h
  | succ i => exact f i y (by simpa using z)
theorem free_no : (∀ ds, Sl.no ≠ .ow ds) ∧ ∀ ks, Sl.no ≠ .od ks := ⟨fun _ z => (nomatch z), fun _ z => (nomatch z)⟩
theorem free_da {d : PyData} : (∀ ds, Sl.da d ≠ .ow ds) ∧ ∀ ks, Sl.da d ≠ .od ks := ⟨fun _ z => (nomatch z), fun _ z => (nomatch z)⟩
theorem free_fx {v : V} {o : Option PyData} : (∀ ds, Sl.fx v o ≠ .ow ds) ∧ ∀ ks, Sl.fx v o ≠ .od ks := ⟨fun _ z => (nomatch z), fun _ z => (nomatch z)⟩
/-- a list of new ints, as data for a while -/
theorem lend_at {K : PySem.W.Frag} {G H : Hp} {p : Addr} {ns : List Int} (gh : Same G H) (gp : G p = none) (hp : H p = some (.lst (ns.map .int))) : Same G (upd G p (.lst (ns.map .int))) ∧ Same (upd G p (.lst (ns.map .int))) H ∧ At K (upd G p (.lst (ns.map .int))) (.ref p) (li ns) :=
  ⟨same_new gp, fun b o z => by
    by_cases y : b = p
    · subst y; rw [upd_same] at z; rw [hp]; exact z
    · rw [upd_ne y] at z; exact gh b o z, .lst upd_same (atAll_ints ns)⟩
/-- what is wanted of a new pair of new lists -/
def Own2 (ds es : List Int) (G H : Hp) (Q : VK) : Prop := ∀ (G' H' : Hp) (t p q : Addr), Ext G H G' H' → H t = none → H p = none → H q = none → G' t = none → G' p = none → G' q = none → p ≠ q →
  H' t = some (.tup [.ref p, .ref q]) → H' p = some (.lst (ds.map .int)) → H' q = some (.lst (es.map .int)) → Q (.ref t) H'
/-- the pair as data -/
theorem own2_data {K : PySem.W.Frag} {G H : Hp} {t p q : Addr} {ds es : List Int} (gh : Same G H) (gt : G t = none) (gp : G p = none) (gq : G q = none) (pq : p ≠ q) (ht : H t = some (.tup [.ref p, .ref q])) (hp : H p = some (.lst (ds.map .int))) (hq : H q = some (.lst (es.map .int))) :
    ∃ G2, Same G G2 ∧ Same G2 H ∧ At K G2 (.ref t) (.tuple [li ds, li es]) := by
  have tp : t ≠ p := fun e => by rw [e, hp] at ht; cases ht
  have tq : t ≠ q := fun e => by rw [e, hq] at ht; cases ht
  refine ⟨upd (upd (upd G p (.lst (ds.map .int))) q (.lst (es.map .int))) t (.tup [.ref p, .ref q]), fun a o e => ?_, fun a o e => ?_, ?_⟩
  · rw [upd_ne (ne_of_none e gt), upd_ne (ne_of_none e gq), upd_ne (ne_of_none e gp)]; exact e
  · by_cases z : a = t
    · subst z; rw [upd_same] at e; rw [ht]; exact e
    · rw [upd_ne z] at e
      by_cases z : a = q
      · subst z; rw [upd_same] at e; rw [hq]; exact e
      · rw [upd_ne z] at e
        by_cases z : a = p
        · subst z; rw [upd_same] at e; rw [hp]; exact e
        · rw [upd_ne z] at e; exact gh a o e
  · refine .tup (xs := [.ref p, .ref q]) upd_same (.cons (.lst (xs := ds.map .int) ?_ (atAll_ints ds)) (.cons (.lst (xs := es.map .int) ?_ (atAll_ints es)) .nil))
    · rw [upd_ne (Ne.symm tp), upd_ne pq, upd_same]
    · rw [upd_ne (Ne.symm tq), upd_same]
section
variable {Pg : Program} {w : World} {K : PySem.W.Frag} {mg : Str → Option Value} {base : Heap}
/-- a def keeps a contract of any kind -/
theorem fn_okR {x qual : Str} {st : Stmt} {f : Addr} {fd : FuncData} {N ps : List Str} {k : Nat} {sp : Sp} (F : Fun K x qual st f fd) (Sc : FnScope N ps (defScope st)) (len : ∀ vs H Q E, sp vs H Q E → vs.length = ps.length)
    (hbody : ∀ (cdv : Value) (A : Around) (outer : List PySem.Env) (s : Shared) (H : Hp) (E : XK), Room k (A.deeper (PyProof.Rows.envOfC qual (defScope st) s.heap.objs.size f cdv)) →
      ∃ t, PSs (cxOf (L2.CX Pg w) Pg w K mg base N qual (defScope st) f cdv A outer s H E) (defBody st) t ∧ ∀ (vs : List V) (Q : VK), sp vs H Q E → t { nx := fun _ H' => Q .non H', rt := Q } (L2.start N vs) H) : FnOk Pg w K mg base (L2.CX Pg w) (k + 1) f fd ps sp := by
  refine F.okX Sc (fun vs H Q E h => len vs H Q E h) (fun cdv A outer s H vs Q E hr h => ?_)
  obtain ⟨t, h1, h2⟩ := hbody cdv A outer s H E hr
  exact ⟨t, h1, h2 vs Q h⟩
end
section
variable {K : PySem.W.Frag} {c : CA} {E : XK} {Γ : Env} {P : Out → Prop} {ds : List PyData} {r : Res} {ta : TA} {S : List PyData → Res → Prop} {sp : Sp}
/-! ### calls of any contract, where it may raise -/
theorem ex_callR {C : Addr} (hsp : ∀ vs H Q E, spOf K S vs H Q E → sp vs H Q E) (h : EvA K ta Γ ds) (hs : S ds (.er C)) : EvX K E (tCall sp [] E ta) Γ C := fun H0 G H σ s gh hE Q =>
  h H0 G H σ s gh _ fun vs G1 H1 e1 a1 => by
    show sp (vs ++ []) H1 Q E
    rw [List.append_nil]
    exact hsp _ _ _ _ ⟨G1, ds, .er C, e1.gh, a1, hs, fun d' z => (nomatch z), fun es' z => (nomatch z), fun C' z H' e => by cases z; exact hE H' (e1.hh.trans e)⟩
theorem ht_tryXR {C : Addr} {cc : Value} {ts : Addr → Value → Option Addr → TS} {Wout : WX} (hsp : ∀ vs H Q E, spOf K S vs H Q E → sp vs H Q E) (h : EvA K ta Γ ds) (hs : S ds (.er C)) (hm : PySem.W.exmOne K (.ref C) cc = some true) (hsu : ∀ a, HT K E (ts a (.ref C) none) Γ P) :
    HT K E (tTry K cc (fun W => tDrop (tCallS sp (WE W) ta)) ts Wout) Γ P := fun H0 G H σ D s gh h0 m =>
  h H0 G H σ s gh _ fun vs G1 H1 e1 a1 => hsp _ _ _ _ ⟨G1, ds, .er C, e1.gh, a1, hs, fun d z => (nomatch z), fun es z => (nomatch z), fun C' z H' e => by
    cases z
    refine ⟨true, hm, fun _ a ha => ?_, fun z => nomatch z⟩
    have e2 := e1.trans (Ext.grow e1.gh e)
    exact hsu a H0 G1 H' σ D (s.ext e2) e2.gh (h0.trans e2.hh) (m.step (e2.step h0))⟩
theorem ht_tryAsXR {C : Addr} {i : Nat} {cc : Value} {ts : Addr → Value → Option Addr → TS} {Wout : WX} (hsp : ∀ vs H Q E, spOf K S vs H Q E → sp vs H Q E) (h : EvA K ta Γ ds) (hs : S ds (.er C)) (hm : PySem.W.exmOne K (.ref C) cc = some true) (hsu : ∀ a, HT K E (ts a (.ref C) none) (Γ.set i (.rf a)) (TryEnd i P)) :
    HT K E (tTryAs K cc i (fun W => tDrop (tCallS sp (WE W) ta)) ts Wout) Γ P := fun H0 G H σ D s gh h0 m =>
  h H0 G H σ s gh _ fun vs G1 H1 e1 a1 => hsp _ _ _ _ ⟨G1, ds, .er C, e1.gh, a1, hs, fun d z => (nomatch z), fun es z => (nomatch z), fun C' z H' e => by
    cases z
    refine ⟨true, hm, fun _ a ha => ?_, fun z => nomatch z⟩
    have e2 := e1.trans (Ext.grow e1.gh e)
    have m2 := m.step (e2.step h0)
    exact hsu a H0 G1 H' _ _ ((s.ext e2).setR) e2.gh (h0.trans e2.hh) ⟨fun Γ' σ' G' H' p q s' => m2.nx _ _ G' H' p q s'.setN, fun d v G' H' p q => m2.rt d v G' H' p q, fun ds q us G' H' p z => m2.ro ds q us G' H' p z,
      fun Γ' σ' G' H' p q s' => m2.bk _ _ G' H' p q s'.setN, fun Γ' σ' G' H' p q s' => m2.ct _ _ G' H' p q s'.setN, fun C H' p q => m2.ex C H' p q⟩⟩
/-! ### dealt -/
abbrev lnI (R : List Nat) : List Int := R.map fun r : Nat => (r : Int)
theorem lnI_ln (R : List Nat) : li (lnI R) = ln R := by
  show PyData.list _ = .list _
  rw [List.map_map]; rfl
def S_dealtX (c : CA) (ds : List PyData) (r : Res) : Prop := ∃ w d, ds = [w, d] ∧ okT w ∧ (isTab w = true → rentOk d = false) ∧ r = .er (if isTab w = true then c.be else c.bt)
def sp_dealt (K : PySem.W.Frag) (c : CA) : Sp := fun vs H Q E => spOf K (S_dealtX c) vs H Q E ∨
  ∃ (G : Hp) (W : List (List Int)) (n k : Nat) (rent : Int) (R : List Nat), Same G H ∧ AtAll K G vs [PD.tb W, .int rent] ∧ Tab W n ∧ 0 ≤ rent ∧ rent ≤ 1000000000 ∧ SetN W n k (List.range n) R ∧ Own2 (lnI R) (partsOf W R n rent) G H Q
abbrev t_dealt (K : PySem.W.Frag) (c : CA) (E : XK) : TS :=
  (tSeq (tDrop (tCall (spOf K (S_need_table c)) [] E (tCons (tVar 0) tNil)))
    (tSeq (tDrop (tCall (spOf K (S_need_rent c)) [] E (tCons (tVar 1) tNil)))
    (tSeq (tAsg (tCall (spOf K (S_best c)) [] E (tCons (tVar 0) tNil)) (gName 2))
    (tRet (tTup (tCons (tVar 2) (tCons (tCall (spOf K (S_parts_of c)) [] E (tCons (tVar 0) (tCons (tVar 2) (tCons (tVar 1) tNil)))) tNil)))))))
abbrev N_dealt : List Str := ["wishes", "rent", "rooms"]
theorem isTab_list {w : PyData} (h : isTab w = true) : ∃ xs, w = .list xs := by
  cases w with
  | list xs => exact ⟨xs, rfl⟩
  | _ => cases h
theorem ht_dealtX (h : S_dealtX c ds r) : HT K E (t_dealt K c E) (env0 N_dealt ds) (Post r) := by
  obtain ⟨w, d, rfl, hw, hd, rfl⟩ := h
  show HT K E _ [.da w, .da d, .no] _
  by_cases ht : isTab w = true
  · rw [if_pos ht]
    refine ht_seq (ht_drop (ev_call (ea_cons (ev_var rfl) ea_nil) ⟨w, rfl, hw, by unfold needTable; rw [if_pos ht]⟩) ?_)
    exact ht_seq (ht_dropX (ex_call (ea_cons (ev_var rfl) ea_nil) ⟨d, rfl, by rw [hd ht]; rfl⟩) rfl)
  · rw [if_neg ht]
    exact ht_seq (ht_dropX (xa_table (ev_var rfl) hw (by simpa using ht)) rfl)
theorem lenr_dealt {vs : List V} {H : Hp} {Q : VK} (h : sp_dealt K c vs H Q E) : vs.length = 2 := by
  rcases h with ⟨G, ds, r, gh, a, ⟨w, d, rfl, _⟩, _⟩ | ⟨G, W, n, k, rent, R, gh, a, _⟩
  · exact a.length
  · exact a.length
theorem htr_dealt {vs : List V} {H : Hp} {Q : VK} (h : sp_dealt K c vs H Q E) : t_dealt K c E { nx := fun _ H' => Q .non H', rt := Q } (L2.start N_dealt vs) H := by
  rcases h with h | ⟨G, W, n, k, rent, R, gh, a, t, r0, r1, hs, q⟩
  · exact body_of h fun ds r hS => ht_dealtX hS
  · have s0 := sat_start (N := N_dealt) (H := H) (G := G) a
    have s0 : Sat K H G H (L2.start N_dealt vs) [.da (PD.tb W), .da (.int rent), .no] := s0
    have qq := setN_rms hs (rms_range n)
    have en := setN_end hs
    show tSeq _ _ _ (L2.start N_dealt vs) H
    unfold tSeq
    refine raw_drop (ev_call (ea_cons (ev_var rfl) ea_nil) t.need) s0 gh fun G1 H1 e1 s1 => ?_
    dsimp only
    have hr : rentOk (.int rent) = true := by simp [rentOk, r0, r1]
    refine raw_drop (ev_call (ea_cons (ev_var rfl) ea_nil) ⟨.int rent, rfl, by rw [if_pos hr]⟩) s1 e1.gh fun G2 H2 e2 s2 => ?_
    dsimp only
    refine raw_asgO (eo_best t hs (ev_var rfl)) s2 e2.gh fun p us G3 H3 e3 hp gp hp3 ap s3 => ?_
    have us_e : us = (lnI R).map .int := by
      have : AtAll K G3 us ((lnI R).map .int) := by
        have e : (lnI R).map PyData.int = lnL R := by rw [List.map_map]; rfl
        rw [e]; exact ap
      exact this.ints
    subst us_e
    dsimp only
    have e13 := (e1.trans e2).trans e3
    have f3 : Free [.da (PD.tb W), .da (.int rent), .no] := free_cons free_da (free_cons free_da (free_cons free_no free_nil))
    obtain ⟨l1, l2, l3⟩ := lend_at (K := K) e3.gh gp hp3
    rw [lnI_ln] at l3
    have s4 : Sat K H (upd G3 p (.lst ((lnI R).map .int))) H3 ((L2.start N_dealt vs).set 2 (some (.ref p))) [.da (PD.tb W), .da (.int rent), .da (ln R)] := (s3.gup f3 l1).setD l3
    refine raw_pair (v := .ref p) (by rw [List.getElem?_set_self (by rw [s3.len]; simp)]) (eo_parts t qq en (ev_var rfl) (ev_var rfl) (ev_var rfl)) s4 l2 fun b us2 G5 H5 tt e5 hb gb hb5 ab ht => ?_
    have us_e : us2 = (partsOf W R n rent).map .int := ab.ints
    subst us_e
    have hh : Same H H5 := e13.hh.trans e5.hh
    have pb : p ≠ b := fun e => by rw [e, hb] at hp3; cases hp3
    have tp : p ≠ tt := fun e => by have := e5.hh _ _ hp3; rw [e, ht] at this; cases this
    have tb' : b ≠ tt := fun e => by rw [e, ht] at hb5; cases hb5
    refine q G _ tt p b (Ext.grow gh (hh.trans (same_new ht))) (hh.free ht) ((e1.trans e2).hh.free hp) (e13.hh.free hb) (gh.free (hh.free ht)) (gh.free ((e1.trans e2).hh.free hp)) (gh.free (e13.hh.free hb)) pb upd_same ?_ ?_
    · rw [upd_ne tp]; exact e5.hh _ _ hp3
    · rw [upd_ne tb']; exact hb5
end
end PD

set_option Elab.async false
set_option linter.all false
set_option maxRecDepth 100000
set_option maxHeartbeats 1000000
/-! Own pieces of the heap that are written while they are read as data. -/
namespace PD
open PySem L2
def Dj (A B : Hp) : Prop := ∀ a, A a ≠ none → B a = none
theorem some_ne {α : Type} {o : Option α} {x : α} (h : o = some x) : o ≠ none := by rw [h]; exact fun z => nomatch z
theorem Dj.symm {A B : Hp} (h : Dj A B) : Dj B A := fun a hb => by
  cases q : A a with
  | none => rfl
  | some o => exact absurd (h a (some_ne q)) hb
def emp : Hp := fun _ => none
/-- piece O of H becomes O' of H', all else stays -/
structure Fr (O H O' H' : Hp) : Prop where
  oh : Same O' H'
  keep : ∀ a o, H a = some o → O a = none → H' a = some o
  dom : ∀ a, O' a ≠ none → O a ≠ none ∨ H a = none
section
variable {O H O' H' O2 H2 G A : Hp}
theorem Fr.refl (h : Same O H) : Fr O H O H := ⟨h, fun a o e _ => e, fun a h => .inl h⟩
theorem Fr.grow (h : Same O H) (e : Same H H') : Fr O H O H' := ⟨h.trans e, fun a o q _ => e a o q, fun a h => .inl h⟩
theorem Fr.trans (a : Fr O H O' H') (b : Fr O' H' O2 H2) : Fr O H O2 H2 := by
  have nn : ∀ x, H x ≠ none → O x = none → O' x = none := fun x hx ox => by
    cases q : O' x with
    | none => rfl
    | some o =>
      rcases a.dom x (some_ne q) with z | z
      · exact absurd ox z
      · exact absurd z hx
  refine ⟨b.oh, fun x o e ox => b.keep x o (a.keep x o e ox) (nn x (some_ne e) ox), fun x hx => ?_⟩
  rcases b.dom x hx with z | z
  · exact a.dom x z
  · cases q : H x with
    | none => exact .inr rfl
    | some o =>
      cases q2 : O x with
      | some o2 => exact .inl (fun z => nomatch z)
      | none => rw [a.keep x o q q2] at z; cases z
/-- what stands apart from the piece stays -/
theorem Fr.off (f : Fr O H O' H') (s : Same A H) (d : Dj O A) : Same A H' ∧ Dj O' A := by
  refine ⟨fun a o e => f.keep a o (s a o e) (d.symm a (some_ne e)), fun a h => ?_⟩
  rcases f.dom a h with z | z
  · exact d a z
  · exact s.free z
end
/-! ### the state of a body that owns pieces -/
structure Rw (K : PySem.W.Frag) (H0 Gs G : Hp) (Os : List Hp) (H : Hp) (σ : St) (Γ : Env) : Prop where
  s : Sat K H0 G H σ Γ
  f : Free Γ
  st : Step H0 Gs G H
  pc : ∀ O ∈ Os, Same O H ∧ Dj O G ∧ Dj O H0
  dj : Os.Pairwise Dj
def lend (G : Hp) : List Hp → Hp
  | [] => G
  | O :: Os => fun a => match O a with | some o => some o | none => lend G Os a
theorem lend_ok {G H : Hp} (gh : Same G H) : ∀ {Os : List Hp}, (∀ O ∈ Os, Same O H ∧ Dj O G) → Os.Pairwise Dj → Same G (lend G Os) ∧ Same (lend G Os) H ∧ ∀ O ∈ Os, Same O (lend G Os)
  | [], _, _ => ⟨Same.refl G, gh, fun O h => nomatch h⟩
  | O :: Os, hp, hd => by
    obtain ⟨d1, d2⟩ := List.pairwise_cons.mp hd
    obtain ⟨i1, i2, i3⟩ := lend_ok gh (Os := Os) (fun A hA => hp A (List.mem_cons_of_mem _ hA)) d2
    obtain ⟨o1, o2⟩ := hp O List.mem_cons_self
    refine ⟨fun a o e => ?_, fun a o e => ?_, fun A hA a o e => ?_⟩
    · have : O a = none := o2.symm a (some_ne e)
      show (match O a with | some o => some o | none => lend G Os a) = some o
      rw [this]; exact i1 a o e
    · have e : (match O a with | some o => some o | none => lend G Os a) = some o := e
      cases q : O a with
      | some u => rw [q] at e; cases e; exact o1 a _ q
      | none => rw [q] at e; exact i2 a o e
    · show (match O a with | some o => some o | none => lend G Os a) = some o
      rcases List.mem_cons.mp hA with z | z
      · subst z; rw [e]
      · have : O a = none := (d1 A z).symm a (some_ne e)
        rw [this]; exact i3 A z a o e
theorem Free.set {Γ : Env} {i : Nat} {x : Sl} (f : Free Γ) (h : (∀ ds, x ≠ .ow ds) ∧ ∀ ks, x ≠ .od ks) : Free (Γ.set i x) := fun j y e => by
  by_cases z : i = j
  · subst z
    have hi : i < Γ.length := by have := (List.getElem?_eq_some_iff.mp e).1; simpa using this
    rw [List.getElem?_set_self hi] at e; cases e; exact h
  · rw [List.getElem?_set_ne z] at e; exact f j y e
theorem Sat.know {K : PySem.W.Frag} {H0 G H : Hp} {σ : St} {Γ : Env} (s : Sat K H0 G H σ Γ) {i : Nat} {v : V} {d : PyData} (hi : σ[i]? = some (some v)) (h : At K G v d) : Sat K H0 G H σ (Γ.set i (.da d)) := by
  have := s.setD (i := i) h
  rwa [set_same hi] at this
theorem Sat.knowX {K : PySem.W.Frag} {H0 G H : Hp} {σ : St} {Γ : Env} (s : Sat K H0 G H σ Γ) {i : Nat} {v : V} {d : PyData} (hi : σ[i]? = some (some v)) (h : AtX K G v d) : Sat K H0 G H σ (Γ.set i (.fx v (some d))) := by
  have := s.setF (i := i) (v := v) (o := some d) fun d' z => by cases z; exact h
  rwa [set_same hi] at this
section
variable {K : PySem.W.Frag} {E : XK} {H0 Gs G G' H H' O O' A B : Hp} {Os : List Hp} {σ : St} {Γ Γ2 : Env} {D : Ends} {te : TE} {i : Nat}
theorem Rw.gh (r : Rw K H0 Gs G Os H σ Γ) : Same G H := r.st.gh
theorem Rw.grow (r : Rw K H0 Gs G Os H σ Γ) (e : Same H H') : Rw K H0 Gs G Os H' σ Γ :=
  ⟨r.s.free r.f, r.f, ⟨r.st.hh.trans e, r.st.gg, r.st.gh.trans e, r.st.fr⟩, fun O h => ⟨(r.pc O h).1.trans e, (r.pc O h).2⟩, r.dj⟩
/-- the first piece is written -/
theorem Rw.fr (r : Rw K H0 Gs G (O :: Os) H σ Γ) (F : Fr O H O' H') : Rw K H0 Gs G (O' :: Os) H' σ Γ := by
  obtain ⟨d1, d2⟩ := List.pairwise_cons.mp r.dj
  obtain ⟨p1, p2, p3⟩ := r.pc O List.mem_cons_self
  obtain ⟨g1, g2⟩ := F.off r.gh p2
  obtain ⟨h1, h2⟩ := F.off r.st.hh p3
  refine ⟨r.s.free r.f, r.f, ⟨h1, r.st.gg, g1, r.st.fr⟩, fun A hA => ?_, List.pairwise_cons.mpr ⟨fun A hA => ?_, d2⟩⟩
  · rcases List.mem_cons.mp hA with z | z
    · subst z; exact ⟨F.oh, g2, h2⟩
    · have q := r.pc A (List.mem_cons_of_mem _ z)
      exact ⟨(F.off q.1 (d1 A z)).1, q.2⟩
  · exact (F.off (r.pc A (List.mem_cons_of_mem _ hA)).1 (d1 A hA)).2
theorem Rw.new (r : Rw K H0 Gs G Os H σ Γ) (F : Fr emp H O H') : Rw K H0 Gs G (O :: Os) H' σ Γ := by
  have r2 : Rw K H0 Gs G (emp :: Os) H σ Γ := ⟨r.s, r.f, r.st, fun A hA => by
    rcases List.mem_cons.mp hA with z | z
    · subst z; exact ⟨fun a o e => (nomatch e), fun a e => absurd rfl e, fun a e => absurd rfl e⟩
    · exact r.pc A z, List.pairwise_cons.mpr ⟨fun A _ a e => absurd rfl e, r.dj⟩⟩
  exact r2.fr F
theorem Rw.swap (r : Rw K H0 Gs G (A :: B :: Os) H σ Γ) : Rw K H0 Gs G (B :: A :: Os) H σ Γ := by
  obtain ⟨d1, d2⟩ := List.pairwise_cons.mp r.dj
  obtain ⟨d3, d4⟩ := List.pairwise_cons.mp d2
  refine ⟨r.s, r.f, r.st, fun O h => r.pc O ?_, List.pairwise_cons.mpr ⟨fun O h => ?_, List.pairwise_cons.mpr ⟨fun O h => d1 O (List.mem_cons_of_mem _ h), d4⟩⟩⟩
  · rcases List.mem_cons.mp h with z | z
    · subst z; exact List.mem_cons_of_mem _ List.mem_cons_self
    · rcases List.mem_cons.mp z with z | z
      · subst z; exact List.mem_cons_self
      · exact List.mem_cons_of_mem _ (List.mem_cons_of_mem _ z)
  · rcases List.mem_cons.mp h with z | z
    · subst z; exact (d1 B List.mem_cons_self).symm
    · exact d3 O z
theorem Rw.drop (r : Rw K H0 Gs G (A :: Os) H σ Γ) : Rw K H0 Gs G Os H σ Γ := ⟨r.s, r.f, r.st, fun O h => r.pc O (List.mem_cons_of_mem _ h), (List.pairwise_cons.mp r.dj).2⟩
/-- more is known -/
theorem Rw.ext (r : Rw K H0 Gs G Os H σ Γ) (e : Ext G H G' H') : Rw K H0 Gs G' Os H' σ Γ :=
  ⟨r.s.ext e, r.f, r.st.trans (e.step r.st.hh), fun O h => ⟨(r.pc O h).1.trans e.hh, fun a n => e.fr a ((r.pc O h).2.1 a n) (some_up (r.pc O h).1 n), (r.pc O h).2.2⟩, r.dj⟩
/-- a piece is data from now on -/
theorem Rw.frz (r : Rw K H0 Gs G (O :: Os) H σ Γ) : Rw K H0 Gs (lend G [O]) Os H σ Γ := by
  obtain ⟨d1, d2⟩ := List.pairwise_cons.mp r.dj
  obtain ⟨p1, p2, p3⟩ := r.pc O List.mem_cons_self
  obtain ⟨l1, l2, l3⟩ := lend_ok r.gh (Os := [O]) (fun A hA => by rw [List.mem_singleton.mp hA]; exact ⟨p1, p2⟩) (List.pairwise_singleton _ _)
  have off : ∀ a, G a = none → O a = none → lend G [O] a = none := fun a g o => by
    show (match O a with | some o => some o | none => G a) = none
    rw [o]; exact g
  refine ⟨r.s.gup r.f l1, r.f, ⟨r.st.hh, r.st.gg.trans l1, l2, fun a g n => off a (r.st.fr a g n) (p3.symm a n)⟩, fun A hA => ?_, d2⟩
  have q := r.pc A (List.mem_cons_of_mem _ hA)
  exact ⟨q.1, fun a n => off a (q.2.1 a n) ((d1 A hA).symm a n), q.2.2⟩
theorem Rw.setD (r : Rw K H0 Gs G Os H σ Γ) {v : V} {d : PyData} (h : At K G v d) : Rw K H0 Gs G Os H (σ.set i (some v)) (Γ.set i (.da d)) := ⟨r.s.setD h, r.f.set free_da, r.st, r.pc, r.dj⟩
theorem Rw.setR (r : Rw K H0 Gs G Os H σ Γ) {a : Addr} : Rw K H0 Gs G Os H (σ.set i (some (.ref a))) (Γ.set i (.rf a)) := ⟨r.s.setR, r.f.set free_fx, r.st, r.pc, r.dj⟩
theorem Rw.setN (r : Rw K H0 Gs G Os H σ Γ) {o : Option V} : Rw K H0 Gs G Os H (σ.set i o) (Γ.set i .no) := ⟨r.s.setN, r.f.set free_no, r.st, r.pc, r.dj⟩
theorem Rw.le (r : Rw K H0 Gs G Os H σ Γ) : Same G (lend G Os) ∧ Same (lend G Os) H ∧ ∀ O ∈ Os, Same O (lend G Os) := lend_ok r.gh (fun O h => ⟨(r.pc O h).1, (r.pc O h).2.1⟩) r.dj
theorem Rw.lent (r : Rw K H0 Gs G Os H σ Γ) : Sat K H0 (lend G Os) H σ Γ := r.s.gup r.f r.le.1
/-! ### evaluation, all pieces lent -/
theorem Rw.val {d : PyData} (r : Rw K H0 Gs G Os H σ Γ) (s2 : Sat K H0 (lend G Os) H σ Γ2) (h : EvD K te Γ2 d) (hs : scal d = true) {Q : VK} (k : ∀ v H', Same H H' → At K G v d → Q v H') : te σ H Q :=
  h H0 (lend G Os) H σ s2 r.le.2.1 Q fun v G' H' e a => k v H' e.hh (a.scal hs)
theorem Rw.own {ns : List Int} (r : Rw K H0 Gs G Os H σ Γ) (s2 : Sat K H0 (lend G Os) H σ Γ2) (h : EvO K te Γ2 (ns.map .int)) {Q : VK} (k : ∀ p H', Same H H' → H p = none → H' p = some (.lst (ns.map .int)) → Q (.ref p) H') : te σ H Q :=
  h H0 (lend G Os) H σ s2 r.le.2.1 Q fun p vs G' H' e hp gp hp' a => k p H' e.hh hp (by rw [hp', a.ints])
theorem Rw.asg {d : PyData} (r : Rw K H0 Gs G Os H σ Γ) (s2 : Sat K H0 (lend G Os) H σ Γ2) (h : EvD K te Γ2 d) (hs : scal d = true) (k : ∀ v H', Rw K H0 Gs G Os H' (σ.set i (some v)) (Γ.set i (.da d)) → D.nx (σ.set i (some v)) H') : tAsg te (gName i) D σ H :=
  r.val s2 h hs fun v H' e a => k v H' ((r.grow e).setD a)
theorem Rw.asgO {ns : List Int} (r : Rw K H0 Gs G Os H σ Γ) (s2 : Sat K H0 (lend G Os) H σ Γ2) (h : EvO K te Γ2 (ns.map .int)) (k : ∀ p G' H', Rw K H0 Gs G' Os H' (σ.set i (some (.ref p))) (Γ.set i (.da (li ns))) → D.nx (σ.set i (some (.ref p))) H') : tAsg te (gName i) D σ H :=
  r.own s2 h fun p H' e hp hp' => by
    have gp : G p = none := r.gh.free hp
    obtain ⟨l1, l2, l3⟩ := lend_at (K := K) (r.gh.trans e) gp hp'
    have ex : Ext G H (upd G p (.lst (ns.map .int))) H' := ⟨e, l1, l2, fun a g n => by
      have z : a ≠ p := fun z => n (by rw [z]; exact hp)
      rw [upd_ne z]; exact g⟩
    exact k p _ H' ((r.ext ex).setD l3)
theorem Rw.drop_ {d : PyData} (r : Rw K H0 Gs G Os H σ Γ) (s2 : Sat K H0 (lend G Os) H σ Γ2) (h : EvD K te Γ2 d) (k : ∀ H', Same H H' → D.nx σ H') : tDrop te D σ H :=
  h H0 (lend G Os) H σ s2 r.le.2.1 _ fun v G' H' e a => k H' e.hh
theorem Rw.if_ {tt : TT} {t u : TS} {b : Bool} (r : Rw K H0 Gs G Os H σ Γ) (s2 : Sat K H0 (lend G Os) H σ Γ2) (h : EvT K tt Γ2 b) (h1 : b = true → ∀ H', Same H H' → t D σ H') (h2 : b = false → ∀ H', Same H H' → u D σ H') : tIfS tt t u D σ H :=
  raw_if h s2 r.le.2.1 h1 h2
theorem Rw.ret {d : PyData} (r : Rw K H0 Gs G Os H σ Γ) (s2 : Sat K H0 (lend G Os) H σ Γ2) (h : EvD K te Γ2 d) (hs : scal d = true) (k : ∀ v H', Step H0 Gs G H' → At K G v d → D.rt v H') : tRet te D σ H :=
  r.val s2 h hs fun v H' e a => k v H' (r.grow e).st a
/-- at the start -/
theorem rw_start (s : Sat K H0 G H σ Γ) (f : Free Γ) (gh : Same G H) (h0 : Same H0 H) : Rw K H0 G G [] H σ Γ := ⟨s, f, (Ext.refl gh).step h0, fun O h => (nomatch h), .nil⟩
end
/-! ### own tables -/
structure Tbl (O : Hp) (p : Addr) (qs : List Addr) (W : List (List Int)) : Prop where
  hp : O p = some (.lst (qs.map V.ref))
  len : qs.length = W.length
  nd : qs.Nodup
  pn : p ∉ qs
  row : ∀ (i : Nat) (q : Addr), qs[i]? = some q → O q = some (.lst ((W.getD i []).map V.int))
theorem Tbl.up {O O' : Hp} {p : Addr} {qs : List Addr} {W : List (List Int)} (t : Tbl O p qs W) (e : Same O O') : Tbl O' p qs W :=
  ⟨e _ _ t.hp, t.len, t.nd, t.pn, fun i q h => e _ _ (t.row i q h)⟩
theorem Tbl.at {K : PySem.W.Frag} {O : Hp} {p : Addr} {qs : List Addr} {W : List (List Int)} (t : Tbl O p qs W) : At K O (.ref p) (PD.tb W) := by
  refine .lst t.hp ?_
  have go : ∀ (m : Nat) (l : List Addr) (V' : List (List Int)), l = qs.drop m → V' = W.drop m → AtAll K O (l.map V.ref) (V'.map li) := by
    intro m l
    induction l generalizing m with
    | nil =>
      intro V' hl hV
      have h1 := congrArg List.length hl
      rw [List.length_drop] at h1
      have h2 := congrArg List.length hV
      rw [List.length_drop] at h2
      have := t.len
      have : V' = [] := List.length_eq_zero_iff.mp (by simp at h1; omega)
      subst this
      exact .nil
    | cons a l ih =>
      intro V' hl hV
      have hm : qs[m]? = some a := by
        have : (qs.drop m)[0]? = some a := by rw [← hl]; rfl
        rw [List.getElem?_drop] at this
        simpa using this
      have ml : m < W.length := by rw [← t.len]; exact (List.getElem?_eq_some_iff.mp hm).1
      have h2 := t.row m a hm
      have hl' : l = qs.drop (m + 1) := by
        rw [← List.drop_drop, ← hl]; rfl
      have hV' : V' = W.getD m [] :: W.drop (m + 1) := by
        rw [hV, List.drop_eq_getElem_cons ml, List.getD_eq_getElem?_getD, List.getElem?_eq_getElem ml]; rfl
      rw [hV']
      exact .cons (.lst h2 (atAll_ints _)) (ih (m + 1) _ hl' rfl)
  exact go 0 qs W rfl rfl
/-- the addresses of a table -/
def cut (H : Hp) (l : List Addr) : Hp := fun a => if a ∈ l then H a else none
theorem cut_same {H : Hp} {l : List Addr} : Same (cut H l) H := fun a o e => by
  have e : (if a ∈ l then H a else none) = some o := e
  by_cases z : a ∈ l
  · rwa [if_pos z] at e
  · rw [if_neg z] at e; cases e
theorem cut_in {H : Hp} {l : List Addr} {a : Addr} (h : a ∈ l) : cut H l a = H a := if_pos h
theorem cut_out {H : Hp} {l : List Addr} {a : Addr} (h : a ∉ l) : cut H l a = none := if_neg h
theorem Tbl.cut {H : Hp} {p : Addr} {qs : List Addr} {W : List (List Int)} (t : Tbl H p qs W) : Tbl (PD.cut H (p :: qs)) p qs W :=
  ⟨by rw [cut_in List.mem_cons_self]; exact t.hp, t.len, t.nd, t.pn, fun i q h => by rw [cut_in (List.mem_cons_of_mem _ (List.mem_of_getElem? h))]; exact t.row i q h⟩
/-- new cells are a piece -/
theorem fr_cut {H H' : Hp} {l : List Addr} (e : Same H H') (h : ∀ a ∈ l, H a = none) : Fr emp H (cut H' l) H' :=
  ⟨cut_same, fun a o q _ => e a o q, fun a n => .inr (h a (Decidable.byContradiction fun z => n (cut_out z)))⟩
section
variable {K : PySem.W.Frag} {E : XK} {H0 G H H' O : Hp} {σ : St} {Γ : Env} {D : Ends} {p : Addr} {qs : List Addr} {W : List (List Int)}
/-- xs[i][k] = x, xs an own table; tb reads xs -/
theorem tbl_set {tb te ti tk : TE} {x : Int} {i k : Nat} (s : Sat K H0 G H σ Γ) (f : Free Γ) (gh : Same G H) (oh : Same O H) (og : Dj O G ∨ Same O G) (t : Tbl O p qs W) (hb : ∀ (H1 : Hp) (Q : VK), Same H H1 → Q (.ref p) H1 → tb σ H1 Q)
    (he : EvD K te Γ (.int x)) (hi : EvD K ti Γ (.int (i : Int))) (hk : EvD K tk Γ (.int (k : Int))) (il : i < W.length) (kl : k < (W.getD i []).length)
    (q : ∀ q H', qs[i]? = some q → Fr O H (upd O q (.lst (((W.getD i []).set k x).map V.int))) H' → Tbl (upd O q (.lst (((W.getD i []).set k x).map V.int))) p qs (set2 W i k x) → D.nx σ H') : tAsg te (gSub (tOp (rIx K) tb ti) tk rSetL) D σ H := by
  refine he H0 G H σ s gh _ fun v G1 H1 e1 a1 => ?_
  cases a1
  refine hb H1 _ e1.hh ?_
  refine hi H0 G H1 σ (s.free f) (gh.trans e1.hh) _ fun w G2 H2 e2 a2 => ?_
  cases a2
  have e12 : Same H H2 := e1.hh.trans e2.hh
  have il' : i < qs.length := by rw [t.len]; exact il
  have hq : qs[i]? = some qs[i] := List.getElem?_eq_getElem il'
  refine .inl ⟨p, qs.map V.ref, (i : Int), .ref qs[i], rfl, rfl, SqL.of (e12 _ _ (oh _ _ t.hp)), atI_of (by omega) (by rw [Int.toNat_natCast, List.getElem?_map, hq]; rfl), ?_⟩
  refine hk H0 G H2 σ (s.free f) (gh.trans e12) _ fun w G3 H3 e3 a3 => ?_
  cases a3
  have e13 : Same H H3 := e12.trans e3.hh
  have hr := t.row i _ hq
  refine ⟨qs[i], (W.getD i []).map V.int, (k : Int), k, rfl, rfl, e13 _ _ (oh _ _ hr), ?_, ?_⟩
  · have := ixN_of (n := ((W.getD i []).map V.int).length) (k := (k : Int)) (by omega) (by rw [List.length_map]; omega)
    rwa [Int.toNat_natCast] at this
  rw [← List.map_set]
  have nO : O qs[i] ≠ none := some_ne hr
  have pq : p ≠ qs[i] := fun z => t.pn (z ▸ List.getElem_mem il')
  refine q qs[i] _ hq ⟨fun a o e => ?_, fun a o e n => ?_, fun a n => ?_⟩ ⟨by rw [upd_ne pq]; exact t.hp, by unfold set2; rw [List.length_set]; exact t.len, t.nd, t.pn, fun m b z => ?_⟩
  · by_cases z : a = qs[i]
    · subst z; rw [upd_same] at e ⊢; exact e
    · rw [upd_ne z] at e ⊢; exact e13 _ _ (oh _ _ e)
  · have z : a ≠ qs[i] := fun z => nO (z ▸ n)
    rw [upd_ne z]; exact e13 _ _ e
  · by_cases z : a = qs[i]
    · subst z; exact .inl nO
    · rw [upd_ne z] at n; exact .inl n
  · unfold set2
    by_cases e : i = m
    · subst e
      rw [hq] at z; cases z
      rw [upd_same, List.getD_eq_getElem?_getD (l := W.set _ _), List.getElem?_set_self il]; rfl
    · have : b ≠ qs[i] := fun y => by
        obtain ⟨ml, mz⟩ := List.getElem?_eq_some_iff.mp z
        exact e ((List.getElem_inj t.nd).mp (by rw [mz, y]))
      rw [upd_ne this, List.getD_eq_getElem?_getD (l := W.set _ _), List.getElem?_set_ne e, ← List.getD_eq_getElem?_getD]
      exact t.row m b z
/-- [te for x in xs], te a new list of ints -/
theorem tbl_new {α : Type} {j : Nat} {te tl : TE} (xs : List α) (emb : α → PyData) (f : α → List Int) (s : Sat K H0 G H σ Γ) (gh : Same G H) (h : EvD K tl Γ (.list (xs.map emb))) (hz : xs.length ≤ 1000)
    (he : ∀ x ∈ xs, EvO K te ((wipeE Γ [j]).set j (.da (emb x))) ((f x).map .int)) (Q : VK)
    (q : ∀ D qs H', Same H H' → (∀ a ∈ D :: qs, H a = none) → Tbl H' D qs (xs.map f) → Q (.ref D) H') : tLc (iList K tl) (gName j) tYes te [j] σ H Q :=
  h H0 G H σ s gh _ fun v G1 H1 e1 a1 => by
    cases a1 with
    | lst l1 l2 =>
      rename_i l us
      refine ⟨l, rfl, ⟨us, SqL.of (e1.gh _ _ l1)⟩, fun D hD => ?_⟩
      have hD0 : H D = none := e1.hh.free hD
      have gl : Same G1 H1 := e1.gh
      refine lc_list (xs := us) (fun i H' => ∃ qs : List Addr, Same H1 H' ∧ H' D = some (.lst (qs.map V.ref)) ∧ qs.length = i ∧ qs.Nodup ∧ D ∉ qs ∧ ∀ (m : Nat) (b : Addr), qs[m]? = some b → H1 b = none ∧ H' b = some (.lst ((((xs.map f).getD m [])).map V.int))) ?_ (fun i H' _ pq => ?_) (fun i v H' hi pq => ?_) (fun H' pq => ?_)
      · exact ⟨[], same_new hD, upd_same, rfl, List.nodup_nil, List.not_mem_nil, fun m b hb => by simp at hb⟩
      · obtain ⟨qs, sm, _⟩ := pq
        exact SqL.of (sm _ _ (e1.gh _ _ l1))
      · obtain ⟨qs, sm, hd1, hl, nd, nD, hq⟩ := pq
        obtain ⟨dx, hdx, ad⟩ := l2.getV hi
        rw [List.getElem?_map] at hdx
        obtain ⟨x, hx, rfl⟩ := Option.map_eq_some_iff.mp hdx
        have hm : x ∈ xs := List.mem_of_getElem? hx
        have gh' : Same G1 H' := gl.trans sm
        have s1 : Sat K H0 G1 H' (L2.wipe σ [j]) (wipeE Γ [j]) := ((s.ext e1).wipe [j]).ext (Ext.grow gl sm)
        refine tg_name H0 G1 H' _ v s1 gh' ad _ fun σ2 s2 l2' k2 => ⟨wipe_same (by rw [l2', wipe_length]) k2, ?_⟩
        show te σ2 H' _
        refine he x hm H0 G1 H' σ2 s2 gh' _ fun q vs G2 H2 e2 hqn gq hq2 aq => ?_
        have ev := aq.ints
        subst ev
        have qD : q ≠ D := fun z => by rw [z] at hqn; rw [hd1] at hqn; cases hqn
        have hil : i < xs.length := (List.getElem?_eq_some_iff.mp hx).1
        refine ⟨qs.map V.ref, e2.hh _ _ hd1, by rw [List.length_map, hl]; exact Nat.lt_of_lt_of_le hil (Nat.le_trans hz (by decide)), qs ++ [q], fun b o z => ?_, ?_, by rw [List.length_append, hl]; rfl, ?_, ?_, fun m b hb => ?_⟩
        · rw [upd_ne (ne_of_none z hD)]; exact e2.hh _ _ (sm _ _ z)
        · rw [upd_same, List.map_append]; rfl
        · rw [List.nodup_append]
          refine ⟨nd, by simp, fun a ha b hb z => ?_⟩
          rw [List.mem_singleton.mp hb] at z
          subst z
          obtain ⟨m, hm⟩ := List.getElem?_of_mem ha
          have h' := (hq m a hm).2
          rw [hqn] at h'; cases h'
        · intro hm2
          rcases List.mem_append.mp hm2 with z | z
          · exact nD z
          · exact qD (List.mem_singleton.mp z).symm
        · by_cases hi' : m < qs.length
          · rw [List.getElem?_append_left hi'] at hb
            obtain ⟨h1, h2⟩ := hq m b hb
            have bD : b ≠ D := fun y => nD (y ▸ List.mem_of_getElem? hb)
            exact ⟨h1, by rw [upd_ne bD]; exact e2.hh _ _ h2⟩
          · have em : m = qs.length := by
              have := (List.getElem?_eq_some_iff.mp hb).1
              rw [List.length_append] at this
              simp at this
              omega
            subst em
            rw [List.getElem?_append_right (Nat.le_refl _), Nat.sub_self] at hb
            have e2' : q = b := by simpa using hb
            subst e2'
            refine ⟨sm.free hqn, ?_⟩
            rw [upd_ne qD, hq2, List.getD_eq_getElem?_getD, List.getElem?_map, hl, hx]; rfl
      · obtain ⟨qs, sm, hd1, hl, nd, nD, hq⟩ := pq
        have lu : us.length = xs.length := by rw [l2.length, List.length_map]
        refine q D qs H' (e1.hh.trans sm) (fun a ha => ?_) ⟨hd1, by rw [hl, List.length_map, lu], nd, nD, fun m b hb => (hq m b hb).2⟩
        rcases List.mem_cons.mp ha with z | z
        · subst z; exact hD0
        · obtain ⟨m, hm⟩ := List.getElem?_of_mem z
          exact e1.hh.free (hq m a hm).1
end
end PD
namespace PD
open PySem L2
theorem raw_seq {H : Hp} {σ : St} {D : Ends} {t u : TS} (h : t { D with nx := u D } σ H) : tSeq t u D σ H := h
theorem Sat.base0 {K : PySem.W.Frag} {H0 H0' G H H' : Hp} {σ : St} {Γ : Env} (s : Sat K H0 G H σ Γ) (f : Free Γ) : Sat K H0' G H' σ Γ :=
  ⟨s.len, s.da, fun i ds q => absurd rfl ((f i _ q).1 ds), fun i j di dj p q1 => absurd rfl ((f i _ q1).1 di), fun i ks q => absurd rfl ((f i _ q).2 ks), fun i j di dj p q1 => absurd rfl ((f i _ q1).2 di), s.fx⟩
/-- what is wanted of a new pair, where it is data -/
theorem own2_ext {K : PySem.W.Frag} {G H : Hp} {ds es : List Int} {Q : VK} (k : ∀ v G' H', Ext G H G' H' → At K G' v (.tuple [li ds, li es]) → Q v H') : Own2 ds es G H Q := fun G' H' t p q e ht hp hq gt gp gq pq e1 e2 e3 => by
  have tp : t ≠ p := fun z => by rw [z, e2] at e1; cases e1
  have tq : t ≠ q := fun z => by rw [z, e3] at e1; cases e1
  refine k _ (upd (upd (upd G' p (.lst (ds.map .int))) q (.lst (es.map .int))) t (.tup [.ref p, .ref q])) H' ⟨e.hh, fun a o z => ?_, fun a o z => ?_, fun a z n => ?_⟩ ?_
  · have z := e.gg a o z
    rw [upd_ne (ne_of_none z gt), upd_ne (ne_of_none z gq), upd_ne (ne_of_none z gp)]; exact z
  · by_cases y : a = t
    · subst y; rw [upd_same] at z; rw [e1]; exact z
    · rw [upd_ne y] at z
      by_cases y : a = q
      · subst y; rw [upd_same] at z; rw [e3]; exact z
      · rw [upd_ne y] at z
        by_cases y : a = p
        · subst y; rw [upd_same] at z; rw [e2]; exact z
        · rw [upd_ne y] at z; exact e.gh a o z
  · have n1 : a ≠ t := fun y => n (by rw [y]; exact ht)
    have n2 : a ≠ q := fun y => n (by rw [y]; exact hq)
    have n3 : a ≠ p := fun y => n (by rw [y]; exact hp)
    rw [upd_ne n1, upd_ne n2, upd_ne n3]; exact e.fr a z n
  · refine .tup (xs := [.ref p, .ref q]) upd_same (.cons (.lst (xs := ds.map .int) ?_ (atAll_ints ds)) (.cons (.lst (xs := es.map .int) ?_ (atAll_ints es)) .nil))
    · rw [upd_ne (Ne.symm tp), upd_ne pq, upd_same]
    · rw [upd_ne (Ne.symm tq), upd_same]
end PD
namespace PD
open PySem L2
section
variable {K : PySem.W.Frag} {E : XK} {H0 G H H' O : Hp} {σ : St} {Γ : Env} {D : Ends} {p : Addr} {qs : List Addr} {W : List (List Int)}
/-- row[k] = x, row one of an own table's rows; tb reads it -/
theorem tbl_setA {tb te tk : TE} {x : Int} {i k : Nat} {a : Addr} (s : Sat K H0 G H σ Γ) (f : Free Γ) (gh : Same G H) (oh : Same O H) (t : Tbl O p qs W) (ha : qs[i]? = some a) (hb : ∀ (H1 : Hp) (Q : VK), Same H H1 → Q (.ref a) H1 → tb σ H1 Q)
    (he : EvD K te Γ (.int x)) (hk : EvD K tk Γ (.int (k : Int))) (kl : k < (W.getD i []).length)
    (q : ∀ H', Fr O H (upd O a (.lst (((W.getD i []).set k x).map V.int))) H' → Tbl (upd O a (.lst (((W.getD i []).set k x).map V.int))) p qs (set2 W i k x) → D.nx σ H') : tAsg te (gSub tb tk rSetL) D σ H := by
  refine he H0 G H σ s gh _ fun v G1 H1 e1 a1 => ?_
  cases a1
  refine hb H1 _ e1.hh ?_
  refine hk H0 G H1 σ (s.free f) (gh.trans e1.hh) _ fun w G3 H3 e3 a3 => ?_
  cases a3
  have e13 : Same H H3 := e1.hh.trans e3.hh
  have hr := t.row i _ ha
  obtain ⟨il', iq⟩ := List.getElem?_eq_some_iff.mp ha
  have il : i < W.length := by rw [← t.len]; exact il'
  refine ⟨a, (W.getD i []).map V.int, (k : Int), k, rfl, rfl, e13 _ _ (oh _ _ hr), ?_, ?_⟩
  · have := ixN_of (n := ((W.getD i []).map V.int).length) (k := (k : Int)) (by omega) (by rw [List.length_map]; omega)
    rwa [Int.toNat_natCast] at this
  rw [← List.map_set]
  have nO : O a ≠ none := some_ne hr
  have pq : p ≠ a := fun z => t.pn (z ▸ List.mem_of_getElem? ha)
  refine q _ ⟨fun b o e => ?_, fun b o e n => ?_, fun b n => ?_⟩ ⟨by rw [upd_ne pq]; exact t.hp, by unfold set2; rw [List.length_set]; exact t.len, t.nd, t.pn, fun m b z => ?_⟩
  · by_cases z : b = a
    · subst z; rw [upd_same] at e ⊢; exact e
    · rw [upd_ne z] at e ⊢; exact e13 _ _ (oh _ _ e)
  · have z : b ≠ a := fun z => nO (z ▸ n)
    rw [upd_ne z]; exact e13 _ _ e
  · by_cases z : b = a
    · subst z; exact .inl nO
    · rw [upd_ne z] at n; exact .inl n
  · unfold set2
    by_cases e : i = m
    · subst e
      rw [ha] at z; cases z
      rw [upd_same, List.getD_eq_getElem?_getD (l := W.set _ _), List.getElem?_set_self il]; rfl
    · have : b ≠ a := fun y => by
        obtain ⟨ml, mz⟩ := List.getElem?_eq_some_iff.mp z
        exact e ((List.getElem_inj t.nd).mp (by rw [mz, y, iq]))
      rw [upd_ne this, List.getD_eq_getElem?_getD (l := W.set _ _), List.getElem?_set_ne e, ← List.getD_eq_getElem?_getD]
      exact t.row m b z
/-- xs.append(e), xs an own table, e a list of its own -/
theorem tbl_app {j : Nat} {te : TE} {row : List Int} {F : Addr → Prop} (hj : σ[j]? = some (some (.ref p))) (t : Tbl H p qs W) (hz : qs.length ≤ 1000)
    (he : ∀ Q : VK, (∀ b H1, Same H H1 → F b → b ∉ p :: qs → H1 b = some (.lst (row.map .int)) → Q (.ref b) H1) → te σ H Q)
    (k : ∀ b H1, Same H H1 → F b → b ∉ p :: qs → Tbl (upd H1 p (.lst (qs.map V.ref ++ [.ref b]))) p (qs ++ [b]) (W ++ [row]) → D.nx σ (upd H1 p (.lst (qs.map V.ref ++ [.ref b])))) : tDrop (tBM K "list" rAppend (tVar j) (tCons te tNil)) D σ H := by
  refine ⟨_, hj, .inl ⟨rfl, _, SqL.of t.hp⟩, ?_⟩
  refine he _ fun b H1 e fb nb hb => ?_
  refine ⟨p, qs.map V.ref, .ref b, rfl, rfl, e _ _ t.hp, by rw [List.length_map]; exact Nat.lt_of_le_of_lt hz (by decide), ?_⟩
  have bp : b ≠ p := fun z => nb (z ▸ List.mem_cons_self)
  have bq : b ∉ qs := fun z => nb (List.mem_cons_of_mem _ z)
  refine k b H1 e fb nb ⟨by rw [upd_same, List.map_append]; rfl, by simp [t.len], ?_, ?_, fun i c hc => ?_⟩
  · rw [List.nodup_append]
    exact ⟨t.nd, by simp, fun x hx y hy z => bq (by rw [List.mem_singleton.mp hy] at z; exact z ▸ hx)⟩
  · intro z
    rcases List.mem_append.mp z with z | z
    · exact t.pn z
    · exact bp (List.mem_singleton.mp z).symm
  · by_cases hi : i < qs.length
    · rw [List.getElem?_append_left hi] at hc
      have cp : c ≠ p := fun z => t.pn (z ▸ List.mem_of_getElem? hc)
      rw [upd_ne cp, e _ _ (t.row i c hc), List.getD_eq_getElem?_getD, List.getD_eq_getElem?_getD, List.getElem?_append_left (by rw [← t.len]; exact hi)]
    · have hi' : i = qs.length := by
        have := (List.getElem?_eq_some_iff.mp hc).1
        rw [List.length_append] at this
        simp at this
        omega
      subst hi'
      rw [List.getElem?_append_right (Nat.le_refl _), Nat.sub_self] at hc
      have e2 : b = c := by simpa using hc
      subst e2
      rw [upd_ne bp, hb, List.getD_eq_getElem?_getD, t.len, List.getElem?_append_right (Nat.le_refl _), Nat.sub_self]; rfl
end
end PD

set_option Elab.async false
set_option linter.all false
set_option maxRecDepth 100000
set_option maxHeartbeats 1000000
/-! The house. -/
namespace PD
open PySem L2
/-- what the class must have -/
structure HK (K : PySem.W.Frag) (C : Addr) : Prop where
  cl : Cls K C
  rows : NoAttr K C "rows"
  rent : NoAttr K C "rent"
  rooms : NoAttr K C "rooms"
structure Hse (C : Addr) (O : Hp) (x : Addr) (W : List (List Int)) (rent : Int) (R : List Nat) : Prop where
  ex : ∃ dx p qs r, O x = some (.ins C dx [("rows", .ref p), ("rent", .int rent), ("rooms", .ref r)]) ∧ Tbl O p qs W ∧ O r = some (.lst ((lnI R).map .int)) ∧ r ∉ qs ∧ r ≠ p
abbrev hs (C : Addr) (W : List (List Int)) (rent : Int) (R : List Nat) : PyData := hsD C (PD.tb W) (.int rent) (ln R)
theorem Hse.at {K : PySem.W.Frag} {C x : Addr} {O : Hp} {W : List (List Int)} {rent : Int} {R : List Nat} (h : Hse C O x W rent R) : AtX K O (.ref x) (hs C W rent R) := by
  obtain ⟨dx, p, qs, r, h1, h2, h3, _⟩ := h.ex
  refine .ins h1 h2.at (.int rent) (.lst h3 ?_)
  have e : (R.map fun r : Nat => PyData.int (r : Int)) = (lnI R).map .int := by rw [List.map_map]; rfl
  rw [e]
  exact atAll_ints _
theorem Hse.up {C x : Addr} {O O' : Hp} {W : List (List Int)} {rent : Int} {R : List Nat} (h : Hse C O x W rent R) (e : Same O O') : Hse C O' x W rent R := by
  obtain ⟨dx, p, qs, r, h1, h2, h3, h4⟩ := h.ex
  exact ⟨dx, p, qs, r, e _ _ h1, h2.up e, e _ _ h3, h4⟩
section
variable {K : PySem.W.Frag} {E : XK} {H0 G H : Hp} {σ : St} {Γ : Env} {C : Addr} {v : V} {a b d : PyData} {i : Nat} {ta : TA} {ds : List PyData}
theorem ev_rows (F : HK K C) (h : Γ[i]? = some (.fx v (some (hsD C a b d)))) : EvD K (tFld K (tVar i) "rows") Γ a := fun H0 G H σ s gh Q q => by
  obtain ⟨h1, h2⟩ := s.fx i v _ h
  cases h2 _ rfl with
  | of z => cases z
  | ins e a1 a2 a3 => exact ⟨_, h1, _, _, _, _, _, rfl, gh _ _ e, F.cl, F.rows, rfl, q _ G H (Ext.refl gh) a1⟩
theorem ev_rent (F : HK K C) (h : Γ[i]? = some (.fx v (some (hsD C a b d)))) : EvD K (tFld K (tVar i) "rent") Γ b := fun H0 G H σ s gh Q q => by
  obtain ⟨h1, h2⟩ := s.fx i v _ h
  cases h2 _ rfl with
  | of z => cases z
  | ins e a1 a2 a3 => exact ⟨_, h1, _, _, _, _, _, rfl, gh _ _ e, F.cl, F.rent, rfl, q _ G H (Ext.refl gh) a2⟩
theorem ev_rooms (F : HK K C) (h : Γ[i]? = some (.fx v (some (hsD C a b d)))) : EvD K (tFld K (tVar i) "rooms") Γ d := fun H0 G H σ s gh Q q => by
  obtain ⟨h1, h2⟩ := s.fx i v _ h
  cases h2 _ rfl with
  | of z => cases z
  | ins e a1 a2 a3 => exact ⟨_, h1, _, _, _, _, _, rfl, gh _ _ e, F.cl, F.rooms, rfl, q _ G H (Ext.refl gh) a3⟩
/-! ### contracts over an object that is read alone -/
def spI (K : PySem.W.Frag) (S : PyData → List PyData → Res → Prop) : Sp := fun vs H Q E => ∃ (G : Hp) (x : Addr) (vs' : List V) (h : PyData) (ds : List PyData) (r : Res), vs = .ref x :: vs' ∧ Same G H ∧ AtX K G (.ref x) h ∧ AtAll K G vs' ds ∧ S h ds r ∧
  (∀ d, r = .ok d → ∀ v G' H', Ext G H G' H' → At K G' v d → Q v H') ∧
  (∀ es, r = .own es → ∀ p us G' H', Ext G H G' H' → H p = none → G' p = none → H' p = some (.lst us) → AtAll K G' us es → Q (.ref p) H') ∧
  (∀ C, r = .er C → ∀ H', Same H H' → E (.ref C) none H')
def envI (N : List Str) (v : V) (h : PyData) (ds : List PyData) : Env := (env0 N (.none :: ds)).set 0 (.fx v (some h))
theorem satI {N : List Str} {x : Addr} {vs' : List V} {h : PyData} {ds : List PyData} (a : AtX K G (.ref x) h) (at_ : AtAll K G vs' ds) : Sat K H G H (L2.start N (.ref x :: vs')) (envI N (.ref x) h ds) := by
  have s0 : Sat K H G H (L2.start N (.non :: vs')) (env0 N (.none :: ds)) := sat_start (.cons .non at_)
  exact s0.setF (i := 0) (v := .ref x) (o := some h) fun d z => by cases z; exact a
theorem body_I {S : PyData → List PyData → Res → Prop} {N : List Str} {t : TS} {vs : List V} {H : Hp} {Q : VK} {E : XK} (h : spI K S vs H Q E) (hb : ∀ v h ds r, S h ds r → HT K E t (envI N v h ds) (Post r)) :
    t { nx := fun _ H' => Q .non H', rt := Q } (L2.start N vs) H := by
  obtain ⟨G, x, vs', h, ds, r, rfl, gh, ax, a, hs, q1, q2, q3⟩ := h
  refine hb (.ref x) h ds r hs H G H _ _ (satI ax a) gh (Same.refl H) ⟨fun Γ' σ' G' H' p st s => ?_, fun d v G' H' p st av => ?_, fun es p us G' H' z st h0 g0 h1 av => ?_, fun Γ' σ' G' H' p st s => ?_, fun Γ' σ' G' H' p st s => ?_, fun C H' p st => ?_⟩
  · cases r with
    | ok d =>
      have e : d = .none := p
      subst e
      exact q1 _ rfl .non G' H' ⟨st.hh, st.gg, st.gh, st.fr⟩ .non
    | own es => exact False.elim p
    | er C => exact False.elim p
  · cases r with
    | ok d' =>
      have e : d = d' := p
      subst e
      exact q1 _ rfl v G' H' ⟨st.hh, st.gg, st.gh, st.fr⟩ av
    | own es => exact False.elim p
    | er C => exact False.elim p
  · cases r with
    | ok d' => exact False.elim z
    | own es' =>
      have e : es = es' := z
      subst e
      exact q2 _ rfl p us G' H' ⟨st.hh, st.gg, st.gh, st.fr⟩ h0 g0 h1 av
    | er C => exact False.elim z
  · cases r <;> exact False.elim p
  · cases r <;> exact False.elim p
  · cases r with
    | ok d' => exact False.elim p
    | own es' => exact False.elim p
    | er C' =>
      have e : C = C' := p
      subst e
      exact q3 _ rfl H' st
/-- no attribute of an instance has the name -/
def noName (m : Str) : Prop := ∀ v1 v2 v3 : V, ([("rows", v1), ("rent", v2), ("rooms", v3)] : List (Str × V)).lookup m = none
theorem meth_run {m : Str} {sp : Sp} {Q : VK} (hm : noName m) (h : Γ[i]? = some (.fx v (some (hsD C a b d)))) (s : Sat K H0 G H σ Γ) (gh : Same G H)
    (k : ∀ x, v = .ref x → AtX K G (.ref x) (hsD C a b d) → ta σ H fun vs H2 => sp (.ref x :: (vs ++ [])) H2 Q E) : tMeth C m sp [] E (tVar i) ta σ H Q := by
  obtain ⟨h1, h2⟩ := s.fx i v _ h
  cases h2 _ rfl with
  | of z => cases z
  | ins e a1 a2 a3 =>
    refine ⟨_, h1, _, _, _, rfl, gh _ _ e, hm _ _ _, ?_⟩
    exact k _ rfl (.ins e a1 a2 a3)
theorem ev_methI {m : Str} {sp : Sp} {S : PyData → List PyData → Res → Prop} {e : PyData} (hsp : ∀ vs H Q E, spI K S vs H Q E → sp vs H Q E) (hm : noName m) (h : Γ[i]? = some (.fx v (some (hsD C a b d)))) (ha : EvA K ta Γ ds) (hS : S (hsD C a b d) ds (.ok e)) :
    EvD K (tMeth C m sp [] E (tVar i) ta) Γ e := fun H0 G H σ s gh Q q => meth_run hm h s gh fun x _ ax => ha H0 G H σ s gh _ fun vs G1 H1 e1 a1 => by
  rw [List.append_nil]
  exact hsp _ _ _ _ ⟨G1, x, vs, _, ds, .ok e, rfl, e1.gh, ax.up e1.gg, a1, hS, fun d' z v G' H' e2 a2 => by cases z; exact q v G' H' (e1.trans e2) a2, fun _ z => (nomatch z), fun _ z => (nomatch z)⟩
theorem ex_methI {m : Str} {sp : Sp} {S : PyData → List PyData → Res → Prop} {D : Addr} (hsp : ∀ vs H Q E, spI K S vs H Q E → sp vs H Q E) (hm : noName m) (h : Γ[i]? = some (.fx v (some (hsD C a b d)))) (ha : EvA K ta Γ ds) (hS : S (hsD C a b d) ds (.er D)) :
    EvX K E (tMeth C m sp [] E (tVar i) ta) Γ D := fun H0 G H σ s gh hE Q => meth_run hm h s gh fun x _ ax => ha H0 G H σ s gh _ fun vs G1 H1 e1 a1 => by
  rw [List.append_nil]
  exact hsp _ _ _ _ ⟨G1, x, vs, _, ds, .er D, rfl, e1.gh, ax.up e1.gg, a1, hS, fun _ z => (nomatch z), fun _ z => (nomatch z), fun C' z H' e => by cases z; exact hE H' (e1.hh.trans e)⟩
theorem no_deal : noName "deal" := fun _ _ _ => rfl
theorem no_table : noName "table" := fun _ _ _ => rfl
theorem no_bill : noName "bill" := fun _ _ _ => rfl
theorem no_wish : noName "wish" := fun _ _ _ => rfl
theorem no_charge : noName "charge" := fun _ _ _ => rfl
end
section
variable {K : PySem.W.Frag} {c : CA} {E : XK} {H0 G H : Hp} {σ : St} {Γ : Env} {ds : List PyData} {r : Res} {v : V} {i : Nat} {W : List (List Int)} {R : List Nat} {n : Nat} {rent : Int}
/-! ### deal -/
def sp_house_deal (K : PySem.W.Frag) (c : CA) : Sp := fun vs H Q E => ∃ (G : Hp) (x : Addr) (W : List (List Int)) (n : Nat) (rent : Int) (R : List Nat), vs = [.ref x] ∧ Same G H ∧ AtX K G (.ref x) (hs c.ho W rent R) ∧ Tab W n ∧ Rms R n ∧ (bw W R n).1 = none ∧ Own2 (lnI R) (partsOf W R n rent) G H Q
abbrev t_house_deal (K : PySem.W.Frag) (c : CA) (E : XK) : TS :=
  (tRet (tTup (tCons (tCB (rListV K) (tCons (tFld K (tVar 0) "rooms") tNil)) (tCons (tCall (spOf K (S_parts_of c)) [] E (tCons (tFld K (tVar 0) "rows") (tCons (tFld K (tVar 0) "rooms") (tCons (tFld K (tVar 0) "rent") tNil)))) tNil))))
abbrev N_house_deal : List Str := ["self"]
theorem lenr_house_deal {vs : List V} {Q : VK} (h : sp_house_deal K c vs H Q E) : vs.length = 1 := by
  obtain ⟨G, x, W, n, rent, R, rfl, _⟩ := h
  rfl
theorem lnI_map (R : List Nat) : (lnI R).map PyData.int = lnL R := by rw [List.map_map]; rfl
theorem htr_house_deal (F : HK K c.ho) {vs : List V} {Q : VK} (h : sp_house_deal K c vs H Q E) : t_house_deal K c E { nx := fun _ H' => Q .non H', rt := Q } (L2.start N_house_deal vs) H := by
  obtain ⟨G, x, W, n, rent, R, rfl, gh, ax, t, q, en, k⟩ := h
  have s0 : Sat K H G H (L2.start N_house_deal [.ref x]) [.fx (.ref x) (some (hs c.ho W rent R))] := satI (N := N_house_deal) ax .nil
  show tRet _ _ _ _
  have e1 : EvO K (tCB (rListV K) (tCons (tFld K (tVar 0) "rooms") tNil)) [.fx (.ref x) (some (hs c.ho W rent R))] (lnL R) := eo_list (ev_rooms F rfl)
  refine e1 H G H _ s0 gh _ fun p us G1 H1 x1 hp gp hp1 ap => ?_
  rw [← lnI_map] at ap
  have eu := ap.ints
  subst eu
  have e2 : EvO K (tCall (spOf K (S_parts_of c)) [] E (tCons (tFld K (tVar 0) "rows") (tCons (tFld K (tVar 0) "rooms") (tCons (tFld K (tVar 0) "rent") tNil)))) [.fx (.ref x) (some (hs c.ho W rent R))] ((partsOf W R n rent).map .int) := eo_parts t q en (ev_rows F rfl) (ev_rooms F rfl) (ev_rent F rfl)
  refine e2 H G1 H1 _ (s0.ext x1) x1.gh _ fun b us G2 H2 x2 hb gb hb2 ab => ?_
  have eu := ab.ints
  subst eu
  refine ⟨show 2 ≤ sizeLine by decide, fun tt ht => ?_⟩
  have hh : Same H H2 := x1.hh.trans x2.hh
  have pb : p ≠ b := fun e => by rw [e, hb] at hp1; cases hp1
  have tp : p ≠ tt := fun e => by have := x2.hh _ _ hp1; rw [e, ht] at this; cases this
  have tb' : b ≠ tt := fun e => by rw [e, ht] at hb2; cases hb2
  refine k G _ tt p b (Ext.grow gh (hh.trans (same_new ht))) (hh.free ht) hp (x1.hh.free hb) (gh.free (hh.free ht)) (gh.free hp) (gh.free (x1.hh.free hb)) pb upd_same ?_ ?_
  · rw [upd_ne tp]; exact x2.hh _ _ hp1
  · rw [upd_ne tb']; exact hb2
theorem ev_deal (h : Γ[i]? = some (.fx v (some (hs c.ho W rent R)))) (t : Tab W n) (q : Rms R n) (e : (bw W R n).1 = none) : EvD K (tMeth c.ho "deal" (sp_house_deal K c) [] E (tVar i) tNil) Γ (.tuple [ln R, li (partsOf W R n rent)]) := fun H0 G H σ s gh Q k =>
  meth_run no_deal h s gh fun x _ ax => ⟨G, x, W, n, rent, R, rfl, gh, ax, t, q, e, own2_ext fun v G' H' ex a => k v G' H' ex (by rw [lnI_ln] at a; exact a)⟩
theorem ev_deal0 (h : Γ[i]? = some (.fx v (some (hs c.ho W rent R)))) (t : Tab W n) (q : Rms R n) (e : (bw W R n).1 = none) : EvO K (tOp (rIx K) (tMeth c.ho "deal" (sp_house_deal K c) [] E (tVar i) tNil) (tC (.int 0))) Γ (lnL R) := fun H0 G H σ s gh Q k =>
  meth_run no_deal h s gh fun x _ ax => ⟨G, x, W, n, rent, R, rfl, gh, ax, t, q, e, fun G' H' t p q ex ht hp hq gt gp gq pq e1 e2 e3 =>
    .inr (.inl ⟨t, _, 0, .ref p, rfl, rfl, SqT.of e1, rfl, k p _ G' H' ex hp gp e2 (by rw [← lnI_map]; exact atAll_ints _)⟩)⟩
/-! ### table -/
def sp_house_table (K : PySem.W.Frag) (c : CA) : Sp := fun vs H Q E => ∃ (G : Hp) (x : Addr) (W : List (List Int)) (rent : Int) (R : List Nat), vs = [.ref x] ∧ Same G H ∧ AtX K G (.ref x) (hs c.ho W rent R) ∧ W.length ≤ 1000 ∧
  ∀ D qs H', Same H H' → (∀ a ∈ D :: qs, H a = none) → Tbl H' D qs W → Q (.ref D) H'
abbrev t_house_table (K : PySem.W.Frag) (c : CA) (E : XK) : TS :=
  (tRet (tLc (iList K (tFld K (tVar 0) "rows")) (gName 1) tYes (tCB (rListV K) (tCons (tVar 1) tNil)) [1]))
abbrev N_house_table : List Str := ["self", "row"]
theorem lenr_house_table {vs : List V} {Q : VK} (h : sp_house_table K c vs H Q E) : vs.length = 1 := by
  obtain ⟨G, x, W, rent, R, rfl, _⟩ := h
  rfl
theorem htr_house_table (F : HK K c.ho) {vs : List V} {Q : VK} (h : sp_house_table K c vs H Q E) : t_house_table K c E { nx := fun _ H' => Q .non H', rt := Q } (L2.start N_house_table vs) H := by
  obtain ⟨G, x, W, rent, R, rfl, gh, ax, hz, k⟩ := h
  have s0 : Sat K H G H (L2.start N_house_table [.ref x]) [.fx (.ref x) (some (hs c.ho W rent R)), .no] := satI (N := N_house_table) ax .nil
  show tRet _ _ _ _
  refine tbl_new W li id s0 gh (ev_rows F rfl) hz (fun y _ => eo_list (ev_var rfl)) _ fun D qs H' e f t => ?_
  rw [List.map_id] at t
  exact k D qs H' e f t
theorem ev_table (h : Γ[i]? = some (.fx v (some (hs c.ho W rent R)))) (hz : W.length ≤ 1000) : EvD K (tMeth c.ho "table" (sp_house_table K c) [] E (tVar i) tNil) Γ (PD.tb W) := fun H0 G H σ s gh Q k =>
  meth_run no_table h s gh fun x _ ax => ⟨G, x, W, rent, R, rfl, gh, ax, hz, fun D qs H' e f t => by
    have fr := fr_cut e f
    obtain ⟨l1, l2, l3⟩ := lend_ok (gh.trans e) (Os := [cut H' (D :: qs)]) (fun A hA => by
      rw [List.mem_singleton.mp hA]
      exact ⟨fr.oh, fun a n => by
        rcases fr.dom a n with z | z
        · exact absurd rfl z
        · exact gh.free z⟩) (List.pairwise_singleton _ _)
    refine k _ _ H' ⟨e, l1, l2, fun a g n => ?_⟩ ((t.cut.up (l3 _ (List.mem_singleton.mpr rfl))).at)
    show (match cut H' (D :: qs) a with | some o => some o | none => G a) = none
    rw [cut_out fun z => n (f a z)]
    exact g⟩
/-! ### __init__ -/
def S_initX (c : CA) (ds : List PyData) (r : Res) : Prop := ∃ w d, ds = [w, d] ∧ okT w ∧ (isTab w = true → rentOk d = false) ∧ r = .er (if isTab w = true then c.be else c.bt)
def sp_house_init (K : PySem.W.Frag) (c : CA) : Sp := fun vs H Q E => (∃ (x : Addr) (a b : V), vs = [.ref x, a, b] ∧ spOf K (S_initX c) [a, b] H Q E) ∨
  ∃ (G H1 : Hp) (x dx : Addr) (a b : V) (W : List (List Int)) (n k : Nat) (rent : Int) (R : List Nat), vs = [.ref x, a, b] ∧ H = upd (upd H1 dx (.own x)) x (.ins c.ho dx []) ∧ H1 x = none ∧ H1 dx = none ∧ dx ≠ x ∧ Same G H1 ∧ AtAll K G [a, b] [PD.tb W, .int rent] ∧
    Tab W n ∧ 0 ≤ rent ∧ rent ≤ 1000000000 ∧ SetN W n k (List.range n) R ∧ ∀ O' H', Fr emp H1 O' H' → Hse c.ho O' x W rent R → Q .non H'
abbrev t_house_init (K : PySem.W.Frag) (c : CA) (E : XK) : TS :=
  (tSeq (tDrop (tCall (spOf K (S_need_table c)) [] E (tCons (tVar 1) tNil)))
    (tSeq (tDrop (tCall (spOf K (S_need_rent c)) [] E (tCons (tVar 2) tNil)))
    (tSeq (sFld K (tVar 0) (tLc (iList K (tVar 1)) (gName 3) tYes (tCB (rListV K) (tCons (tVar 3) tNil)) [3]) "rows")
    (tSeq (sFld K (tVar 0) (tVar 2) "rent")
    (sFld K (tVar 0) (tCall (spOf K (S_best c)) [] E (tCons (tVar 1) tNil)) "rooms")))))
abbrev N_house_init : List Str := ["self", "wishes", "rent", "row"]
theorem lenr_house_init {vs : List V} {Q : VK} (h : sp_house_init K c vs H Q E) : vs.length = 3 := by
  rcases h with ⟨x, a, b, rfl, _⟩ | ⟨G, H1, x, dx, a, b, W, n, k, rent, R, rfl, _⟩ <;> rfl
theorem htr_house_init (F : HK K c.ho) {vs : List V} {Q : VK} (h : sp_house_init K c vs H Q E) : t_house_init K c E { nx := fun _ H' => Q .non H', rt := Q } (L2.start N_house_init vs) H := by
  rcases h with ⟨x, a, b, rfl, G, ds, r, gh, at_, ⟨w, d, rfl, hw, hd, rfl⟩, _, _, q3⟩ | ⟨G, H1, x, dx, a, b, W, n, k, rent, R, rfl, rfl, hx, hdx, ne, gh1, at_, t, r0, r1, hs, q⟩
  · cases at_ with
    | cons aw at_ =>
      cases at_ with
      | cons ad at_ =>
        cases at_
        have s0 : Sat K H G H (L2.start N_house_init [.non, a, b]) [.da .none, .da w, .da d, .no] := sat_start (N := N_house_init) (.cons .non (.cons aw (.cons ad .nil)))
        have s1 : Sat K H G H (L2.start N_house_init [.ref x, a, b]) [.rf x, .da w, .da d, .no] := s0.setR (i := 0)
        have ht : HT K E (t_house_init K c E) [.rf x, .da w, .da d, .no] (Post (.er (if isTab w = true then c.be else c.bt))) := by
          by_cases ht : isTab w = true
          · rw [if_pos ht]
            refine ht_seq (ht_drop (ev_call (ea_cons (ev_var rfl) ea_nil) ⟨w, rfl, hw, by unfold needTable; rw [if_pos ht]⟩) ?_)
            exact ht_seq (ht_dropX (ex_call (ea_cons (ev_var rfl) ea_nil) ⟨d, rfl, by rw [hd ht]; rfl⟩) rfl)
          · rw [if_neg ht]
            exact ht_seq (ht_dropX (xa_table (ev_var rfl) hw (by simpa using ht)) rfl)
        exact ht H G H _ _ s1 gh (Same.refl H) ⟨fun _ _ _ _ z => False.elim z, fun _ _ _ _ z => False.elim z, fun _ _ _ _ _ z => False.elim z, fun _ _ _ _ z => False.elim z, fun _ _ _ _ z => False.elim z, fun C H' z e => by
          have z : C = _ := z
          subst z
          exact q3 _ rfl H' e⟩
  · generalize hH : upd (upd H1 dx (.own x)) x (.ins c.ho dx []) = H
    have e1 : Same H1 H := fun a o z => by
      rw [← hH, upd_ne (ne_of_none z hx), upd_ne (ne_of_none z hdx)]; exact z
    have ex : H x = some (.ins c.ho dx []) := by rw [← hH, upd_same]
    have gx : G x = none := gh1.free hx
    have gh : Same G H := gh1.trans e1
    cases at_ with
    | cons aw at_ =>
      cases at_ with
      | cons ad at_ =>
        cases at_
        cases ad
        have s0 : Sat K H G H (L2.start N_house_init [.non, a, .int rent]) [.da .none, .da (PD.tb W), .da (.int rent), .no] := sat_start (N := N_house_init) (.cons .non (.cons aw (.cons (.int rent) .nil)))
        have s1 : Sat K H G H (L2.start N_house_init [.ref x, a, .int rent]) [.rf x, .da (PD.tb W), .da (.int rent), .no] := s0.setR (i := 0)
        have f1 : Free [.rf x, .da (PD.tb W), .da (.int rent), .no] := free_cons free_fx (free_cons free_da (free_cons free_da (free_cons free_no free_nil)))
        generalize hσ : L2.start N_house_init [.ref x, a, .int rent] = σ at s1 ⊢
        have sx : σ[0]? = some (some (.ref x)) := s1.rf 0 x rfl
        have sr : σ[2]? = some (some (.int rent)) := by rw [← hσ]; rfl
        have S : ∀ H', Sat K H G H' σ [.rf x, .da (PD.tb W), .da (.int rent), .no] := fun H' => s1.free f1
        show tSeq _ _ _ _ _
        refine raw_seq (raw_drop (ev_call (ea_cons (ev_var rfl) ea_nil) t.need) s1 gh fun G2 H2 x2 _ => ?_)
        have gh2 : Same G H2 := gh.trans x2.hh
        refine raw_seq (raw_drop (ev_call (ea_cons (ev_var rfl) ea_nil) ⟨.int rent, rfl, by rw [if_pos (show rentOk (.int rent) = true by simp [rentOk, r0, r1])]⟩) (S H2) gh2 fun G3 H3 x3 _ => ?_)
        have gh3 : Same G H3 := gh2.trans x3.hh
        have e13 : Same H1 H3 := e1.trans (x2.hh.trans x3.hh)
        have ex3 : H3 x = some (.ins c.ho dx []) := x3.hh _ _ (x2.hh _ _ ex)
        dsimp only [tSeq, sFld]
        refine tbl_new (j := 3) (tl := tVar 1) (te := tCB (rListV K) (tCons (tVar 3) tNil)) W li id (S H3) gh3 (ev_var rfl) (by rw [t.len]; have := t.hi; omega) (fun y _ => eo_list (ev_var rfl)) _ fun p qs H4 e4 f4 T => ?_
        rw [List.map_id] at T
        refine ⟨_, sx, x, c.ho, dx, [], rfl, e4 _ _ ex3, F.cl, F.rows, by decide, ?_⟩
        refine ⟨_, sr, _, sx, x, c.ho, dx, [("rows", .ref p)], rfl, upd_same, F.cl, F.rent, (show (1 : Nat) < 1000 by decide), ?_⟩
        have nx : ∀ a ∈ p :: qs, a ≠ x := fun a ha z => by have := f4 a ha; rw [z, ex3] at this; cases this
        generalize hH6 : upd (upd H4 x (.ins c.ho dx (putF "rows" (.ref p) []))) x (.ins c.ho dx (putF "rent" (.int rent) [("rows", .ref p)])) = H6
        have k6 : ∀ a, a ≠ x → H6 a = H4 a := fun a z => by rw [← hH6, upd_ne z, upd_ne z]
        have x6 : H6 x = some (.ins c.ho dx [("rows", .ref p), ("rent", .int rent)]) := by rw [← hH6, upd_same]; rfl
        have e16 : Same H1 H6 := fun a o z => by rw [k6 a (ne_of_none z hx)]; exact e4 _ _ (e13 _ _ z)
        have gh6 : Same G H6 := gh1.trans e16
        refine eo_best t hs (ev_var rfl) H G H6 σ (S H6) gh6 _ fun r us G7 H7 x7 hr gr hr7 ar => ?_
        rw [← lnI_map] at ar
        have eu := ar.ints
        subst eu
        refine ⟨_, sx, x, c.ho, dx, [("rows", .ref p), ("rent", .int rent)], rfl, x7.hh _ _ x6, F.cl, F.rooms, (show (2 : Nat) < 1000 by decide), ?_⟩
        have rx : r ≠ x := fun z => by rw [z, x6] at hr; cases hr
        have f6 : ∀ a ∈ p :: qs, a ≠ r := fun a ha z => by
          have nn : H6 a ≠ none := by
            rw [k6 a (nx a ha)]
            rcases List.mem_cons.mp ha with y | y
            · rw [y, T.hp]; exact fun w => nomatch w
            · obtain ⟨m, hm⟩ := List.getElem?_of_mem y
              rw [T.row m a hm]; exact fun w => nomatch w
          exact nn (by rw [z]; exact hr)
        have T7 : Tbl (upd H7 x (.ins c.ho dx (putF "rooms" (.ref r) [("rows", .ref p), ("rent", .int rent)]))) p qs W := by
          have up : ∀ a ∈ p :: qs, ∀ o, H4 a = some o → (upd H7 x (.ins c.ho dx (putF "rooms" (.ref r) [("rows", .ref p), ("rent", .int rent)]))) a = some o := fun a ha o z => by
            rw [upd_ne (nx a ha)]; exact x7.hh _ _ (by rw [k6 a (nx a ha)]; exact z)
          exact ⟨up p List.mem_cons_self _ T.hp, T.len, T.nd, T.pn, fun i q h => up q (List.mem_cons_of_mem _ (List.mem_of_getElem? h)) _ (T.row i q h)⟩
        have e18 : Same H1 (upd H7 x (.ins c.ho dx (putF "rooms" (.ref r) [("rows", .ref p), ("rent", .int rent)]))) := fun a o z => by
          rw [upd_ne (ne_of_none z hx)]; exact x7.hh _ _ (e16 _ _ z)
        refine q (cut _ (x :: r :: p :: qs)) _ (fr_cut e18 fun a ha => ?_) ⟨dx, p, qs, r, ?_, ?_, ?_, fun z => f6 r (List.mem_cons_of_mem _ z) rfl, fun z => f6 p List.mem_cons_self z.symm⟩
        · rcases List.mem_cons.mp ha with z | z
          · rw [z]; exact hx
          · rcases List.mem_cons.mp z with z | z
            · rw [z]; exact e16.free hr
            · exact e13.free (f4 a z)
        · rw [cut_in List.mem_cons_self, upd_same]; rfl
        · exact T7.cut.up fun a o z => by
            have ha : a ∈ p :: qs := Decidable.byContradiction fun y => by rw [cut_out y] at z; cases z
            rw [cut_in ha] at z
            rw [cut_in (List.mem_cons_of_mem _ (List.mem_cons_of_mem _ ha))]; exact z
        · rw [cut_in (List.mem_cons_of_mem _ List.mem_cons_self), upd_ne rx]; exact hr7
/-! ### wish -/
def S_wishX (c : CA) (h : PyData) (ds : List PyData) (r : Res) : Prop := ∃ (W : List (List Int)) (n : Nat) (rent : Int) (R : List Nat) (a b d : PyData), h = hs c.ho W rent R ∧ Tab W n ∧ ds = [a, b, d] ∧
  ((placeOk a n = false ∧ r = .er c.br) ∨ (placeOk a n = true ∧ placeOk b n = false ∧ r = .er c.br) ∨ (placeOk a n = true ∧ placeOk b n = true ∧ coinOk d = false ∧ r = .er c.bt))
def sp_house_wish_k10 (K : PySem.W.Frag) (c : CA) : Sp := fun vs H Q E => spI K (S_wishX c) vs H Q E ∨
  ∃ (G O : Hp) (x : Addr) (W : List (List Int)) (n k : Nat) (rent : Int) (R R' : List Nat) (i j : Nat) (v : Int), vs = [.ref x, .int (i : Int), .int (j : Int), .int v] ∧ Same G H ∧ Same O H ∧ Dj O G ∧ Hse c.ho O x W rent R ∧ Tab W n ∧ Rms R n ∧
    i < n ∧ j < n ∧ 0 ≤ v ∧ v ≤ 1000000 ∧ SetN (set2 W i j v) n k R R' ∧ ∀ O' H', Fr O H O' H' → Hse c.ho O' x (set2 W i j v) rent R' → Q .non H'
abbrev t_house_wish_k10 (K : PySem.W.Frag) (c : CA) (E : XK) : TS :=
  (tSeq (tDrop (tCall (spOf K (S_need_place c)) [] E (tCons (tVar 1) (tCons (tCB (rLenV K) (tCons (tFld K (tVar 0) "rows") tNil)) tNil))))
    (tSeq (tDrop (tCall (spOf K (S_need_place c)) [] E (tCons (tVar 2) (tCons (tCB (rLenV K) (tCons (tFld K (tVar 0) "rows") tNil)) tNil))))
    (tSeq (tIfS (tOr (tNot (tB (tCall (spOf K (S_is_whole c)) [] E (tCons (tVar 3) tNil)))) (tNot (tTest (tChain rLeI rLeI (tC (.int 0)) (tVar 3) (tC (.int 1000000)))))) (tRaiseC c.bt E) tNext)
    (tSeq (tAsg (tVar 3) (gSub (tOp (rIx K) (tFld K (tVar 0) "rows") (tVar 1)) (tVar 2) rSetL))
    (sFld K (tVar 0) (tCall (spOf K (S_settled c)) [] E (tCons (tFld K (tVar 0) "rows") (tCons (tFld K (tVar 0) "rooms") tNil))) "rooms")))))
abbrev N_house_wish_k10 : List Str := ["self", "lodger", "room", "coins"]
theorem lenr_house_wish_k10 {vs : List V} {Q : VK} (h : sp_house_wish_k10 K c vs H Q E) : vs.length = 4 := by
  rcases h with ⟨G, x, vs', h, ds, r, rfl, gh, ax, a, ⟨W, n, rent, R, y, b, d, rfl, t, rfl, _⟩, _⟩ | ⟨G, O, x, W, n, k, rent, R, R', i, j, v, rfl, _⟩
  · have := a.length
    simp at this ⊢
    omega
  · rfl
theorem htI_wish (F : HK K c.ho) {h : PyData} (hS : S_wishX c h ds r) : HT K E (t_house_wish_k10 K c E) (envI N_house_wish_k10 v h ds) (Post r) := by
  obtain ⟨W, n, rent, R, a, b, d, rfl, t, rfl, hh⟩ := hS
  show HT K E _ [.fx v (some (hs c.ho W rent R)), .da a, .da b, .da d] _
  have ln : (W.map li).length = n := by rw [List.length_map, t.len]
  have el : EvD K (tCB (rLenV K) (tCons (tFld K (tVar 0) "rows") tNil)) [.fx v (some (hs c.ho W rent R)), .da a, .da b, .da d] (.int (n : Int)) := evd_eq (ev_lenL (ev_rows F rfl)) (by rw [ln])
  rcases hh with ⟨ha, rfl⟩ | ⟨ha, hb, rfl⟩ | ⟨ha, hb, hd, rfl⟩
  · exact ht_seq (ht_dropX (ex_call (ea_two (ev_var rfl) el) ⟨a, n, rfl, by rw [ha]; rfl⟩) rfl)
  · refine ht_seq (ht_drop (ev_call (ea_two (ev_var rfl) el) ⟨a, n, rfl, by rw [if_pos ha]⟩) ?_)
    exact ht_seq (ht_dropX (ex_call (ea_two (ev_var rfl) el) ⟨b, n, rfl, by rw [hb]; rfl⟩) rfl)
  · refine ht_seq (ht_drop (ev_call (ea_two (ev_var rfl) el) ⟨a, n, rfl, by rw [if_pos ha]⟩) ?_)
    refine ht_seq (ht_drop (ev_call (ea_two (ev_var rfl) el) ⟨b, n, rfl, by rw [if_pos hb]⟩) ?_)
    by_cases w : whole d = true
    · obtain ⟨m, rfl⟩ := of_whole w
      refine ht_seq (ht_if (b := true) (evt_eq (et_or (et_not (et_B (ev_whole (ev_var rfl)))) fun _ => et_not (et_test (ev_leLe ev_int (ev_var rfl) ev_int))) ?_) (fun _ => ht_raise rfl) (fun z => nomatch z))
      simp only [coinOk] at hd
      rw [hd]; rfl
    · have w' : whole d = false := by simpa using w
      refine ht_seq (ht_if (b := true) (evt_eq (et_or (b := false) (et_not (et_B (ev_whole (ev_var rfl)))) fun e => ?_) (by rw [w']; rfl)) (fun _ => ht_raise rfl) (fun z => nomatch z))
      rw [w'] at e; cases e
theorem htr_house_wish_k10 (F : HK K c.ho) {vs : List V} {Q : VK} (h : sp_house_wish_k10 K c vs H Q E) : t_house_wish_k10 K c E { nx := fun _ H' => Q .non H', rt := Q } (L2.start N_house_wish_k10 vs) H := by
  rcases h with h | ⟨G, O, x, W, n, k, rent, R, R', i, j, v, rfl, gh, oh, og, hh, t, q, hi, hj, v0, v1, hset, kk⟩
  · exact body_I h fun v h ds r hS => htI_wish F hS
  · have s0 : Sat K H G H (L2.start N_house_wish_k10 [.non, .int (i : Int), .int (j : Int), .int v]) [.da .none, .da (.int (i : Int)), .da (.int (j : Int)), .da (.int v)] := sat_start (N := N_house_wish_k10) (.cons .non (.cons (.int _) (.cons (.int _) (.cons (.int _) .nil))))
    have s1 : Sat K H G H (L2.start N_house_wish_k10 [.ref x, .int (i : Int), .int (j : Int), .int v]) [.rf x, .da (.int (i : Int)), .da (.int (j : Int)), .da (.int v)] := s0.setR (i := 0)
    have f1 : Free [.rf x, .da (.int (i : Int)), .da (.int (j : Int)), .da (.int v)] := free_cons free_fx (free_cons free_da (free_cons free_da (free_cons free_da free_nil)))
    generalize L2.start N_house_wish_k10 [.ref x, .int (i : Int), .int (j : Int), .int v] = σ at s1 ⊢
    have sx : σ[0]? = some (some (.ref x)) := s1.rf 0 x rfl
    have r0 : Rw K emp G G [O] H σ [.rf x, .da (.int (i : Int)), .da (.int (j : Int)), .da (.int v)] := ⟨s1.base0 f1, f1, ⟨fun _ _ z => (nomatch z), Same.refl G, gh, fun _ _ z => absurd rfl z⟩, fun A hA => by
      rw [List.mem_singleton.mp hA]; exact ⟨oh, og, fun _ _ => rfl⟩, List.pairwise_singleton _ _⟩
    have L : ∀ {H' O' : Hp} {W' : List (List Int)} {R2 : List Nat}, Rw K emp G G [O'] H' σ [.rf x, .da (.int (i : Int)), .da (.int (j : Int)), .da (.int v)] → Hse c.ho O' x W' rent R2 →
        Sat K emp (lend G [O']) H' σ [.fx (.ref x) (some (hs c.ho W' rent R2)), .da (.int (i : Int)), .da (.int (j : Int)), .da (.int v)] := fun r hh => r.lent.knowX (i := 0) sx (hh.at.up (r.le.2.2 _ (List.mem_singleton.mpr rfl)))
    have lw : (W.map li).length = n := by rw [List.length_map, t.len]
    have el : EvD K (tCB (rLenV K) (tCons (tFld K (tVar 0) "rows") tNil)) [.fx (.ref x) (some (hs c.ho W rent R)), .da (.int (i : Int)), .da (.int (j : Int)), .da (.int v)] (.int (n : Int)) := evd_eq (ev_lenL (ev_rows F rfl)) (by rw [lw])
    show tSeq _ _ _ _ _
    refine raw_seq (r0.drop_ (L r0 hh) (ev_call (ea_two (ev_var rfl) el) ⟨.int (i : Int), n, rfl, by rw [if_pos (pl_ok hi)]⟩) fun H1 e1 => ?_)
    have r1 := r0.grow e1
    refine raw_seq (r1.drop_ (L r1 hh) (ev_call (ea_two (ev_var rfl) el) ⟨.int (j : Int), n, rfl, by rw [if_pos (pl_ok hj)]⟩) fun H2 e2 => ?_)
    have r2 := r1.grow e2
    refine raw_seq (r2.if_ (b := false) (L r2 hh) (evt_eq (et_or (et_not (et_B (ev_whole (ev_var rfl)))) fun _ => et_not (et_test (ev_leLe ev_int (ev_var rfl) ev_int))) (by simp [whole, v0, v1])) (fun z => nomatch z) fun _ H3 e3 => ?_)
    have r3 := r2.grow e3
    show tSeq _ _ _ _ _
    obtain ⟨dx, p, qs, rr, h1, h2, h3, h4, h5⟩ := hh.ex
    have o3 := (r3.pc O (List.mem_singleton.mpr rfl)).1
    refine raw_seq (tbl_set r3.s r3.f r3.gh o3 (.inl og) h2 (fun H4 Q4 e4 k4 => ⟨_, sx, x, c.ho, dx, _, .ref p, rfl, e4 _ _ (o3 _ _ h1), F.cl, F.rows, rfl, k4⟩) (ev_var rfl) (ev_var rfl) (ev_var rfl) (by rw [t.len]; exact hi) (by rw [t.row_len hi]; exact hj) fun a H4 ha F4 T4 => ?_)
    have r4 := r3.fr F4
    have xa : x ≠ a := fun z => by have := h2.row i a ha; rw [← z, h1] at this; cases this
    have ra : rr ≠ a := fun z => h4 (z ▸ List.mem_of_getElem? ha)
    have hh4 : Hse c.ho (upd O a (.lst (((W.getD i []).set j v).map V.int))) x (set2 W i j v) rent R := ⟨dx, p, qs, rr, by rw [upd_ne xa]; exact h1, T4, by rw [upd_ne ra]; exact h3, h4, h5⟩
    generalize hO : upd O a (.lst (((W.getD i []).set j v).map V.int)) = O4 at F4 T4 r4 hh4
    have x4 : O4 x = some (.ins c.ho dx [("rows", .ref p), ("rent", .int rent), ("rooms", .ref rr)]) := by rw [← hO, upd_ne xa]; exact h1
    have o4 := (r4.pc O4 (List.mem_singleton.mpr rfl)).1
    have t4 := tab_set2 (k := j) t hi ⟨v0, v1⟩
    refine r4.own (L r4 hh4) (evo_eq (eo_settled t4 q hset (ev_rows F rfl) (ev_rooms F rfl)) (lnI_map R').symm) fun b H5 e5 hb hb5 => ?_
    refine ⟨_, sx, x, c.ho, dx, _, rfl, e5 _ _ (o4 _ _ x4), F.cl, F.rooms, (show (3 : Nat) < 1000 by decide), ?_⟩
    have bx : b ≠ x := fun z => by rw [z, o4 _ _ x4] at hb; cases hb
    have bp : b ≠ p := fun z => by rw [z, o4 _ _ T4.hp] at hb; cases hb
    have bq : b ∉ qs := fun z => by
      obtain ⟨m, hm⟩ := List.getElem?_of_mem z
      rw [o4 _ _ (T4.row m b hm)] at hb; cases hb
    have nO : O4 x ≠ none := some_ne x4
    refine kk (upd (upd O4 b (.lst ((lnI R').map .int))) x (.ins c.ho dx (putF "rooms" (.ref b) [("rows", .ref p), ("rent", .int rent), ("rooms", .ref rr)]))) _ ?_ ⟨dx, p, qs, b, upd_same, ?_, by rw [upd_ne bx, upd_same], bq, bp⟩
    · refine (Fr.trans (Fr.grow oh (e1.trans (e2.trans e3))) F4).trans ⟨fun y o z => ?_, fun y o z nz => ?_, fun y nz => ?_⟩
      · by_cases yx : y = x
        · subst yx; rw [upd_same] at z ⊢; exact z
        · rw [upd_ne yx] at z ⊢
          by_cases yb : y = b
          · subst yb; rw [upd_same] at z; rw [hb5]; exact z
          · rw [upd_ne yb] at z; exact e5 _ _ (o4 _ _ z)
      · have yx : y ≠ x := fun w => nO (w ▸ nz)
        rw [upd_ne yx]; exact e5 _ _ z
      · by_cases yx : y = x
        · subst yx; exact .inl nO
        · rw [upd_ne yx] at nz
          by_cases yb : y = b
          · subst yb; exact .inr hb
          · rw [upd_ne yb] at nz; exact .inl nz
    · have up : ∀ y, y ≠ x → y ≠ b → ∀ o, O4 y = some o → (upd (upd O4 b (.lst ((lnI R').map .int))) x (.ins c.ho dx (putF "rooms" (.ref b) [("rows", .ref p), ("rent", .int rent), ("rooms", .ref rr)]))) y = some o := fun y yx yb o z => by
        rw [upd_ne yx, upd_ne yb]; exact z
      have isl : ∀ y us, O4 y = some (.lst us) → y ≠ x := fun y us z w => by rw [w, x4] at z; cases z
      exact ⟨up p (isl p _ T4.hp) (Ne.symm bp) _ T4.hp, T4.len, T4.nd, T4.pn, fun m y hy => up y (isl y _ (T4.row m y hy)) (fun w => bq (w ▸ List.mem_of_getElem? hy)) _ (T4.row m y hy)⟩
/-! ### charge -/
def S_chargeX (c : CA) (h : PyData) (ds : List PyData) (r : Res) : Prop := ∃ d : PyData, ds = [d] ∧ rentOk d = false ∧ r = .er c.be
def sp_house_charge_k10 (K : PySem.W.Frag) (c : CA) : Sp := fun vs H Q E => spI K (S_chargeX c) vs H Q E ∨
  ∃ (G O : Hp) (x : Addr) (W : List (List Int)) (rent r2 : Int) (R : List Nat), vs = [.ref x, .int r2] ∧ Same G H ∧ Same O H ∧ Dj O G ∧ Hse c.ho O x W rent R ∧ 0 ≤ r2 ∧ r2 ≤ 1000000000 ∧ ∀ O' H', Fr O H O' H' → Hse c.ho O' x W r2 R → Q .non H'
abbrev t_house_charge_k10 (K : PySem.W.Frag) (c : CA) (E : XK) : TS :=
  (tSeq (tDrop (tCall (spOf K (S_need_rent c)) [] E (tCons (tVar 1) tNil)))
    (sFld K (tVar 0) (tVar 1) "rent"))
abbrev N_house_charge_k10 : List Str := ["self", "rent"]
theorem lenr_house_charge_k10 {vs : List V} {Q : VK} (h : sp_house_charge_k10 K c vs H Q E) : vs.length = 2 := by
  rcases h with ⟨G, x, vs', h, ds, r, rfl, gh, ax, a, ⟨d, rfl, _⟩, _⟩ | ⟨G, O, x, W, rent, r2, R, rfl, _⟩
  · have := a.length
    simp at this ⊢
    omega
  · rfl
theorem htr_house_charge_k10 (F : HK K c.ho) {vs : List V} {Q : VK} (h : sp_house_charge_k10 K c vs H Q E) : t_house_charge_k10 K c E { nx := fun _ H' => Q .non H', rt := Q } (L2.start N_house_charge_k10 vs) H := by
  rcases h with h | ⟨G, O, x, W, rent, r2, R, rfl, gh, oh, og, hh, v0, v1, kk⟩
  · refine body_I h fun v h ds r hS => ?_
    obtain ⟨d, rfl, hd, rfl⟩ := hS
    show HT K E _ [.fx v (some h), .da d] _
    exact ht_seq (ht_dropX (ex_call (ea_cons (ev_var rfl) ea_nil) ⟨d, rfl, by rw [hd]; rfl⟩) rfl)
  · have s0 : Sat K H G H (L2.start N_house_charge_k10 [.non, .int r2]) [.da .none, .da (.int r2)] := sat_start (N := N_house_charge_k10) (.cons .non (.cons (.int _) .nil))
    have s1 : Sat K H G H (L2.start N_house_charge_k10 [.ref x, .int r2]) [.rf x, .da (.int r2)] := s0.setR (i := 0)
    have f1 : Free [.rf x, .da (.int r2)] := free_cons free_fx (free_cons free_da free_nil)
    generalize hσ : L2.start N_house_charge_k10 [.ref x, .int r2] = σ at s1 ⊢
    have sx : σ[0]? = some (some (.ref x)) := s1.rf 0 x rfl
    have sr : σ[1]? = some (some (.int r2)) := by rw [← hσ]; rfl
    show tSeq _ _ _ _ _
    refine raw_seq (raw_drop (ev_call (ea_cons (ev_var rfl) ea_nil) ⟨.int r2, rfl, by rw [if_pos (show rentOk (.int r2) = true by simp [rentOk, v0, v1])]⟩) s1 gh fun G2 H2 x2 _ => ?_)
    obtain ⟨dx, p, qs, rr, h1, h2, h3, h4, h5⟩ := hh.ex
    have e2 := x2.hh
    refine ⟨_, sr, _, sx, x, c.ho, dx, _, rfl, e2 _ _ (oh _ _ h1), F.cl, F.rent, (show (3 : Nat) < 1000 by decide), ?_⟩
    have nO : O x ≠ none := some_ne h1
    have isl : ∀ y us, O y = some (.lst us) → y ≠ x := fun y us z w => by rw [w, h1] at z; cases z
    refine kk (upd O x (.ins c.ho dx (putF "rent" (.int r2) [("rows", .ref p), ("rent", .int rent), ("rooms", .ref rr)]))) _ ⟨fun y o z => ?_, fun y o z nz => ?_, fun y nz => ?_⟩ ⟨dx, p, qs, rr, upd_same, ?_, by rw [upd_ne (isl rr _ h3)]; exact h3, h4, h5⟩
    · by_cases yx : y = x
      · subst yx; rw [upd_same] at z ⊢; exact z
      · rw [upd_ne yx] at z ⊢; exact e2 _ _ (oh _ _ z)
    · have yx : y ≠ x := fun w => nO (w ▸ nz)
      rw [upd_ne yx]; exact e2 _ _ z
    · by_cases yx : y = x
      · subst yx; exact .inl nO
      · rw [upd_ne yx] at nz; exact .inl nz
    · exact ⟨by rw [upd_ne (isl p _ h2.hp)]; exact h2.hp, h2.len, h2.nd, h2.pn, fun m y hy => by rw [upd_ne (isl y _ (h2.row m y hy))]; exact h2.row m y hy⟩
/-! ### bill -/
def S_bill (c : CA) (h : PyData) (ds : List PyData) (r : Res) : Prop := ∃ (W : List (List Int)) (n : Nat) (rent : Int) (R : List Nat), h = hs c.ho W rent R ∧ Tab W n ∧ Rms R n ∧ (bw W R n).1 = none ∧
  ((∃ i : Nat, i < n ∧ ds = [.int (i : Int)] ∧ r = .ok (.int ((partsOf W R n rent).getD (R.getD i 0) 0))) ∨ (∃ d, ds = [d] ∧ placeOk d n = false ∧ r = .er c.br))
abbrev sp_house_bill_k10 (K : PySem.W.Frag) (c : CA) : Sp := spI K (S_bill c)
abbrev t_house_bill_k10 (K : PySem.W.Frag) (c : CA) (E : XK) : TS :=
  (tSeq (tDrop (tCall (spOf K (S_need_place c)) [] E (tCons (tVar 1) (tCons (tCB (rLenV K) (tCons (tFld K (tVar 0) "rows") tNil)) tNil))))
    (tRet (tOp (rIx K) (tOp (rIx K) (tMeth c.ho "deal" (sp_house_deal K c) [] E (tVar 0) tNil) (tC (.int 1))) (tOp (rIx K) (tFld K (tVar 0) "rooms") (tVar 1)))))
abbrev N_house_bill_k10 : List Str := ["self", "lodger"]
theorem lenr_house_bill_k10 {vs : List V} {Q : VK} (h : sp_house_bill_k10 K c vs H Q E) : vs.length = 2 := by
  obtain ⟨G, x, vs', h, ds, r, rfl, gh, ax, a, ⟨W, n, rent, R, _, _, _, _, hh⟩, _⟩ := h
  have := a.length
  rcases hh with ⟨i, _, rfl, _⟩ | ⟨d, rfl, _⟩ <;> (simp at this ⊢; omega)
theorem partsOf_len : (partsOf W R n rent).length = n := by unfold partsOf; rw [List.length_map, prs_len]
theorem htr_house_bill_k10 (F : HK K c.ho) {vs : List V} {Q : VK} (h : sp_house_bill_k10 K c vs H Q E) : t_house_bill_k10 K c E { nx := fun _ H' => Q .non H', rt := Q } (L2.start N_house_bill_k10 vs) H := by
  refine body_I h fun v h ds r hS => ?_
  obtain ⟨W, n, rent, R, rfl, t, q, e, hh⟩ := hS
  have lw : (W.map li).length = n := by rw [List.length_map, t.len]
  rcases hh with ⟨i, hi, rfl, rfl⟩ | ⟨d, rfl, hd, rfl⟩
  · show HT K E _ [.fx v (some (hs c.ho W rent R)), .da (.int (i : Int))] _
    refine ht_seq (ht_drop (ev_call (ea_two (ev_var rfl) (evd_eq (ev_lenL (ev_rows F rfl)) (by rw [lw]))) ⟨.int (i : Int), n, rfl, by rw [if_pos (pl_ok hi)]⟩) ?_)
    exact ht_ret (ev_at (ns := partsOf W R n rent) (ev_ixT (ev_deal rfl t q e) ev_int rfl) (ev_roomOf q (ev_rooms F rfl) (ev_var rfl) hi) (by rw [partsOf_len]; exact q.at_lt hi)) rfl
  · show HT K E _ [.fx v (some (hs c.ho W rent R)), .da d] _
    exact ht_seq (ht_dropX (ex_call (ea_two (ev_var rfl) (evd_eq (ev_lenL (ev_rows F rfl)) (by rw [lw]))) ⟨d, n, rfl, by rw [hd]; rfl⟩) rfl)
end
end PD
namespace PD
open PySem L2
/-! ### calls, where pieces are owned -/
/-- a new table of the size n, whatever stands in it -/
def spTab (K : PySem.W.Frag) (S : List PyData → Nat → Prop) : Sp := fun vs H Q E => ∃ (G : Hp) (ds : List PyData) (n : Nat), Same G H ∧ AtAll K G vs ds ∧ S ds n ∧
  ∀ W D qs H', Tab W n → Same H H' → (∀ a ∈ D :: qs, H a = none) → Tbl H' D qs W → Q (.ref D) H'
section
variable {K : PySem.W.Frag} {c : CA} {E : XK} {H0 Gs G H H' O : Hp} {Os : List Hp} {σ : St} {Γ Γ2 : Env} {D : Ends} {i j : Nat} {ta : TA} {ds : List PyData} {W : List (List Int)} {R R' : List Nat} {n k : Nat} {rent : Int}
theorem raw_part {t U : TS} (J : St → Hp → Prop) (h : ∀ D' : Ends, D'.rt = D.rt → (∀ σ' H', J σ' H' → D'.nx σ' H') → t D' σ H) (k : ∀ σ' H', J σ' H' → U D σ' H') : tSeq t U D σ H := h _ rfl k
theorem Rw.asgTab {S : List PyData → Nat → Prop} (r : Rw K H0 Gs G Os H σ Γ) (s2 : Sat K H0 (lend G Os) H σ Γ2) (h : EvA K ta Γ2 ds) (hS : S ds n)
    (k : ∀ W O p qs H', Tab W n → Tbl O p qs W → Rw K H0 Gs G (O :: Os) H' (σ.set i (some (.ref p))) (Γ.set i (.rf p)) → D.nx (σ.set i (some (.ref p))) H') : tAsg (tCall (spTab K S) [] E ta) (gName i) D σ H :=
  h H0 (lend G Os) H σ s2 r.le.2.1 _ fun vs G1 H1 e1 a1 => by
    show spTab K S (vs ++ []) H1 _ E
    rw [List.append_nil]
    exact ⟨G1, ds, n, e1.gh, a1, hS, fun W D qs H' t e f T => k W (cut H' (D :: qs)) D qs H' t T.cut ((r.grow e1.hh).new (fr_cut e f)).setR⟩
theorem Rw.asgMake (r : Rw K H0 Gs G Os H σ Γ) (s2 : Sat K H0 (lend G Os) H σ Γ2) (h : EvA K ta Γ2 [PD.tb W, .int rent]) (t : Tab W n) (r0 : 0 ≤ rent) (r1 : rent ≤ 1000000000) (hset : SetN W n k (List.range n) R)
    (kk : ∀ O x H', Hse c.ho O x W rent R → Rw K H0 Gs G (O :: Os) H' (σ.set i (some (.ref x))) (Γ.set i (.rf x)) → D.nx (σ.set i (some (.ref x))) H') : tAsg (tMake c.ho (sp_house_init K c) [] E ta) (gName i) D σ H :=
  h H0 (lend G Os) H σ s2 r.le.2.1 _ fun vs G1 H1 e1 a1 => fun x dx hx hdx ne => by
    cases a1 with
    | cons a1 b1 =>
      cases b1 with
      | cons b1 c1 =>
        cases c1
        refine .inr ⟨G1, H1, x, dx, _, _, W, n, k, rent, R, rfl, rfl, hx, hdx, ne, e1.gh, .cons a1 (.cons b1 .nil), t, r0, r1, hset, fun O' H' F hh => ⟨rfl, ?_⟩⟩
        exact kk O' x H' hh ((r.grow e1.hh).new F).setR
theorem Rw.wishE {x : Addr} {a b : Nat} {v : Int} {Q : VK} (r : Rw K H0 Gs G (O :: Os) H σ Γ) (s2 : Sat K H0 (lend G (O :: Os)) H σ Γ2) (hj : Γ2[j]? = some (.fx (.ref x) (some (hs c.ho W rent R)))) (hh : Hse c.ho O x W rent R) (t : Tab W n) (q : Rms R n)
    (h : EvA K ta Γ2 [.int (a : Int), .int (b : Int), .int v]) (ha : a < n) (hb : b < n) (v0 : 0 ≤ v) (v1 : v ≤ 1000000) (hset : SetN (set2 W a b v) n k R R')
    (kk : ∀ O' H', Hse c.ho O' x (set2 W a b v) rent R' → Rw K H0 Gs G (O' :: Os) H' σ Γ → Q .non H') : tMeth c.ho "wish" (sp_house_wish_k10 K c) [] E (tVar j) ta σ H Q :=
  meth_run no_wish hj s2 r.le.2.1 fun y ey ax => h H0 (lend G (O :: Os)) H σ s2 r.le.2.1 _ fun vs G1 H1 e1 a1 => by
    cases ey
    rw [List.append_nil]
    have ev : vs = [(a : Int), (b : Int), v].map V.int := (show AtAll K G1 vs ([(a : Int), (b : Int), v].map .int) from a1).ints
    subst ev
    have r1 := r.grow e1.hh
    obtain ⟨p1, p2, p3⟩ := r1.pc O List.mem_cons_self
    exact .inr ⟨G, O, x, W, n, k, rent, R, R', a, b, v, rfl, r1.gh, p1, p2, hh, t, q, ha, hb, v0, v1, hset, fun O' H' F hh' => kk O' H' hh' (r1.fr F)⟩
theorem Rw.chargeE {x : Addr} {r2 : Int} {Q : VK} (r : Rw K H0 Gs G (O :: Os) H σ Γ) (s2 : Sat K H0 (lend G (O :: Os)) H σ Γ2) (hj : Γ2[j]? = some (.fx (.ref x) (some (hs c.ho W rent R)))) (hh : Hse c.ho O x W rent R)
    (h : EvA K ta Γ2 [.int r2]) (v0 : 0 ≤ r2) (v1 : r2 ≤ 1000000000)
    (kk : ∀ O' H', Hse c.ho O' x W r2 R → Rw K H0 Gs G (O' :: Os) H' σ Γ → Q .non H') : tMeth c.ho "charge" (sp_house_charge_k10 K c) [] E (tVar j) ta σ H Q :=
  meth_run no_charge hj s2 r.le.2.1 fun y ey ax => h H0 (lend G (O :: Os)) H σ s2 r.le.2.1 _ fun vs G1 H1 e1 a1 => by
    cases ey
    rw [List.append_nil]
    have ev : vs = [r2].map V.int := (show AtAll K G1 vs ([r2].map .int) from a1).ints
    subst ev
    have r1 := r.grow e1.hh
    obtain ⟨p1, p2, p3⟩ := r1.pc O List.mem_cons_self
    exact .inr ⟨G, O, x, W, rent, r2, R, rfl, r1.gh, p1, p2, hh, v0, v1, fun O' H' F hh' => kk O' H' hh' (r1.fr F)⟩
/-- sorted(rooms) -/
theorem ev_sorted {te : TE} (q : Rms R n) (hn : n < 64) (h : EvD K te Γ (ln R)) : EvD K (tCB (rSorted K) (tCons te tNil)) Γ (ln (List.range n)) := EvO.toD (eo_cb (ea_cons h ea_nil) fun G H vs gh a Q q2 => by
  cases a with
  | cons a1 a2 =>
    cases a2
    cases a1 with
    | lst b1 b2 =>
      rename_i l xs
      have b2 : AtAll K G xs ((lnI R).map .int) := by rw [lnI_map]; exact b2
      have e := b2.ints
      subst e
      refine ⟨l, lnI R, rfl, SqL.of (gh _ _ b1), by rw [List.length_map, q.len]; exact hn, fun ns' p hp hs hn' => ?_⟩
      have e2 : ns' = lnI (List.range n) := by
        have p2 : R.Perm (List.range n) := by
          refine (List.perm_ext_iff_of_nodup q.nd List.nodup_range).mpr fun a => ⟨fun h => List.mem_range.mpr (q.lt a h), fun h => ?_⟩
          obtain ⟨j, hj, e⟩ := q.has (List.mem_range.mp h)
          rw [← e]
          exact getD_mem (by rw [q.len]; exact hj)
        refine List.Perm.eq_of_pairwise (le := fun a b : Int => a ≤ b) (fun a b _ _ h1 h2 => by omega) hs ?_ (hp.trans (p2.map _))
        exact List.pairwise_map.mpr (List.pairwise_lt_range.imp fun h => by omega)
      subst e2
      refine q2 p _ G _ (Ext.own gh hn') hn' (gh.free hn') upd_same ?_
      have : (List.range n).map (fun r : Nat => PyData.int (r : Int)) = (lnI (List.range n)).map .int := by rw [List.map_map]; rfl
      rw [this]
      exact atAll_ints _)
end
end PD

set_option Elab.async false
set_option linter.all false
set_option maxRecDepth 100000
set_option maxHeartbeats 1000000
/-! Methods within try; many except clauses. -/
namespace PD
open PySem L2
/-- a method's call, where what may go out of it leans on the slots -/
def tMethT (C : Addr) (m : Str) (sp : Sp) (E : St → XK) (ta : TE) (t : TA) : TE := fun σ H Q =>
  ta σ H fun o H1 => ∃ a dx fs, o = .ref a ∧ H1 a = some (.ins C dx fs) ∧ fs.lookup m = none ∧ t σ H1 fun vs H2 => sp (o :: vs) H2 Q (E σ)
/-- a new instance, the same -/
def tMakeT (C : Addr) (sp : Sp) (E : St → XK) (t : TA) : TE := fun σ H Q =>
  t σ H fun vs H1 => ∀ o dx, H1 o = none → H1 dx = none → dx ≠ o → sp (.ref o :: vs) (upd (upd H1 dx (.own o)) o (.ins C dx [])) (fun v H2 => v = .non ∧ Q (.ref o) H2) (E σ)
section
variable {X : Cx} {CX : CXT} {k : Nat} {g C : Addr} {fd : FuncData} {ps : List Str} {sp : Sp} {E : St → XK} {nm m : Str} {np pos apos : Pos} {arg o : Expr} {args : List Expr} {ta : TE} {t : TA}
/-- how the model runs a written method call -/
def methSem (X : Cx) (o : Expr) (m : Str) (args : List Expr) (pos apos : Pos) (pl : Sem Bool) : Sem Value := do
  let obj ← eval o X.env; standAt apos.atName
  let fn ← holding [obj] (getMethod obj m pl); callWith pos fn.1 fn.2 (backTo pos (starEach args X.env)) (backToKw pos (keywordEach [] X.env))
/-- the callee with its receiver -/
theorem recv_run {pins : List (Addr × Obj)} {σ : St} {H : Hp} {s : Shared} {Q : VK} {us : List Value} {vs : List V} {a : Addr} (F : FnOk X.prog X.w X.K X.mg X.base CX k g fd ps sp) (hr : Room k X.A) (hb : Binds X.K fd ps []) (hx : ∀ σ, PassesAt CX X σ (E σ))
    (I : Inv X pins σ H s) (r : Vals vs us) (h : sp (.ref a :: vs) H Q (E σ)) : wpAny (model X.prog X.w) X.A (call (.ref g) (.ref a :: us)) (EP X pins σ Q) X.xe s := run_fnS (vs := V.ref a :: vs) F hr hb (hx σ) I (.cons rfl r) h
/-- o.m(arg, ..), where it may raise within a try -/
theorem pe_methT {pl : Sem Bool} (ho : PE X o ta) (cl : Cls X.K C) (M : Meth X.K C m g) (F : FnOk X.prog X.w X.K X.mg X.base CX k g fd ps sp) (hr : Room k X.A) (hb : Binds X.K fd ps []) (hx : ∀ σ, PassesAt CX X σ (E σ)) (ha : PA X (arg :: args) t)
    (h1 : starEach (arg :: args) X.env = (false, eval arg X.env) :: starEach args X.env := by rfl) (h2 : (backTo pos (starEach args X.env)).any (·.1) = false := by rfl)
    (h3 : eval (.Call (.Attribute o m apos) (arg :: args) [] pos) X.env = methSem X o m (arg :: args) pos apos pl := by rfl) : PE X (.Call (.Attribute o m apos) (arg :: args) [] pos) (tMethT C m sp E ta t) := by
  constructor
  intro pins s σ H Q I run
  have obj := ho.run pins s σ H _ I run
  refine PySem.W.methodCall_KW (pl := pl) (thn obj ?_) h3
  rintro u s1 ⟨_, H1, I1, ru, a, dx, fs, rfl, ea, no, rest⟩
  cases (show u = Value.ref a from ru)
  apply getmeth_ok I1 ea cl M no
  have given := ha.run pos pins s1 σ H1 _ I1 rest
  refine PySem.W.callWith_K (first := [.ref a]) (h₀ := X.base) I.ok.mod.kin M.kp (thn given ?_) h1 h2
  rintro us s2 ⟨vs, H2, I2, rv, last⟩
  exact ⟨I2.kIn, recv_run F hr hb hx I2 rv last⟩
/-- o.m() -/
theorem pe_meth0T {pl : Sem Bool} (ho : PE X o ta) (cl : Cls X.K C) (M : Meth X.K C m g) (F : FnOk X.prog X.w X.K X.mg X.base CX k g fd ps sp) (hr : Room k X.A) (hb : Binds X.K fd ps []) (hx : ∀ σ, PassesAt CX X σ (E σ))
    (h3 : eval (.Call (.Attribute o m apos) [] [] pos) X.env = methSem X o m [] pos apos pl := by rfl) : PE X (.Call (.Attribute o m apos) [] [] pos) (tMethT C m sp E ta tNil) := by
  constructor
  intro pins s σ H Q I run
  have obj := ho.run pins s σ H _ I run
  refine PySem.W.methodCall_KW (pl := pl) (thn obj ?_) h3
  rintro u s1 ⟨_, H1, I1, ru, a, dx, fs, rfl, ea, no, rest⟩
  cases (show u = Value.ref a from ru)
  apply getmeth_ok I1 ea cl M no
  exact PySem.W.callWith_K0 (first := [.ref a]) I1.kIn M.kp (recv_run (us := []) F hr hb hx I1 .nil rest)
/-- C(arg, ..) -/
theorem pe_makeT (M : Mk X.K C g) (F : FnOk X.prog X.w X.K X.mg X.base CX k g fd ps sp) (hr : Room (k + 1) X.A) (gl : Gl X nm) (known : X.mg nm = some (.ref C)) (hb : Binds X.K fd ps []) (hx : ∀ σ, PassesAt CX X σ (E σ))
    (ha : PA X (arg :: args) t) (h0 : (nm == ("__debug__" : Str)) = false := by decide) (h1 : starEach (arg :: args) X.env = (false, eval arg X.env) :: starEach args X.env := by rfl) (h2 : (backTo pos (starEach args X.env)).any (·.1) = false := by rfl) :
    PE X (.Call (.Name nm np) (arg :: args) [] pos) (tMakeT C sp E t) := by
  constructor
  intro pins s σ H Q I run
  apply wpAny_Call_Name_kw
  refine ld_glob I gl known ?_ h0
  have given := ha.run pos pins s σ H _ I run
  refine PySem.W.callWith_K (h₀ := X.base) I.ok.mod.kin M.kp (thn given ?_) h1 h2
  rintro us s1 ⟨vs, H1, I1, rv, rest⟩
  refine ⟨I1.kIn, ?_⟩
  -- the instance and its dict are laid next
  have laid := rest (s1.heap.objs.size + 1) s1.heap.objs.size (I1.hok.fresh (Nat.le_add_right s1.heap.objs.size 1)) (I1.hok.fresh (Nat.le_refl s1.heap.objs.size)) (Nat.ne_of_lt (Nat.lt_add_one _))
  have J := Inv.made (C := C) I1
  have both : Vals (V.ref (s1.heap.objs.size + 1) :: vs) (Value.ref (s1.heap.objs.size + 1) :: us) := .cons rfl rv
  have many : (Value.ref (s1.heap.objs.size + 1) :: us).length = ps.length := both.length.symm.trans (F.len _ _ _ _ laid)
  have bound := hb _ _ J.kIn (show ((Value.ref (s1.heap.objs.size + 1) :: us) ++ []).length = ps.length by rw [List.append_nil]; exact many)
  rw [List.append_nil] at bound
  have body := F.run _ X.stack _ _ _ _ _ _ (E σ) (hr.make C us []) (J.env0.make C us []) bound both laid
  show wpAny _ _ (call (.ref C) us) _ _ _
  refine wpAny_call (make_map (f := g) I1.kIn M.makes M.init (beq_iff_eq.mp M.fn) (codeAny_mono body ?_))
  intro res s2 out
  cases res with
  | error e => exact hx σ pins _ _ e s2 J out
  | ok fl =>
    cases fl with
    | next => exact out.elim
    | brk => exact out.elim
    | cont => exact out.elim
    | ret u =>
      obtain ⟨v, H3, J3, rv3, rfl, fin⟩ := J.after out
      exact ⟨rv3, V.ref (s1.heap.objs.size + 1), H3, J3, rfl, fin⟩
end
/-! ### what a try's body raises -/
def RaisesB (K : PySem.W.Frag) (tb : WX → TS) (Γ : Env) (C : Addr) : Prop := ∀ (H0 G H : Hp) (σ : St) (W : WX) (D : Ends), Sat K H0 G H σ Γ → Same G H → (∀ H', Same H H' → W (.ref C) none σ H') → tb W D σ H
/-- which clause takes it -/
inductive Sel (K : PySem.W.Frag) (C : Addr) : List (Value × (Addr → Value → Option Addr → TS)) → (Addr → Value → Option Addr → TS) → Prop
  | here {c : Value} {ts : Addr → Value → Option Addr → TS} {l : List (Value × (Addr → Value → Option Addr → TS))} (h : PySem.W.exmOne K (.ref C) c = some true) : Sel K C ((c, ts) :: l) ts
  | next {c : Value} {ts ts' : Addr → Value → Option Addr → TS} {l : List (Value × (Addr → Value → Option Addr → TS))} (h : PySem.W.exmOne K (.ref C) c = some false) (r : Sel K C l ts') : Sel K C ((c, ts) :: l) ts'
section
variable {K : PySem.W.Frag} {E : XK} {Γ : Env} {P : Out → Prop} {ta : TA} {ds : List PyData} {C : Addr} {i : Nat} {v : V} {a b d : PyData}
theorem Sel.run {Wout : WX} {D : Ends} {σ : St} {H : Hp} {ts : Addr → Value → Option Addr → TS} {l : List (Value × (Addr → Value → Option Addr → TS))} (s : Sel K C l ts) (h : ∀ a, H a = none → ts a (.ref C) none D σ H) : wMany K Wout D l (.ref C) none σ H := by
  induction s with
  | here h1 => exact ⟨true, h1, fun _ => h, fun z => nomatch z⟩
  | next h1 _ ih => exact ⟨false, h1, fun z => (nomatch z), fun _ => ih h⟩
theorem ht_tryMany {tb : WX → TS} {l : List (Value × (Addr → Value → Option Addr → TS))} {ts : Addr → Value → Option Addr → TS} {Wout : WX} (hb : RaisesB K tb Γ C) (hs : Sel K C l ts) (hsu : ∀ a, HT K E (ts a (.ref C) none) Γ P) : HT K E (tTryMany K tb l Wout) Γ P := fun H0 G H σ D s gh h0 m =>
  hb H0 G H σ _ D s gh fun H' e => hs.run fun a _ => by
    have e2 := Ext.grow gh e
    exact hsu a H0 G H' σ D (s.ext e2) e2.gh (h0.trans e) (m.step (e2.step h0))
theorem rb_if {tt : TT} {t u : WX → TS} {c : Bool} (h : EvT K tt Γ c) (h1 : c = true → RaisesB K t Γ C) (h2 : c = false → RaisesB K u Γ C) : RaisesB K (fun W => tIfS tt (t W) (u W)) Γ C := fun H0 G H σ W D s gh hW =>
  h H0 G H σ s gh _ fun G1 H1 e1 => by
    cases c with
    | true => exact h1 rfl H0 G1 H1 σ W D (s.ext e1) e1.gh fun H' e => hW H' (e1.hh.trans e)
    | false => exact h2 rfl H0 G1 H1 σ W D (s.ext e1) e1.gh fun H' e => hW H' (e1.hh.trans e)
theorem rb_meth {Co : Addr} {m : Str} {sp : Sp} {S : PyData → List PyData → Res → Prop} (hsp : ∀ vs H Q E, spI K S vs H Q E → sp vs H Q E) (hm : noName m) (h : Γ[i]? = some (.fx v (some (hsD Co a b d)))) (ha : EvA K ta Γ ds) (hS : S (hsD Co a b d) ds (.er C)) :
    RaisesB K (fun W => tDrop (tMethT Co m sp (WE W) (tVar i) ta)) Γ C := fun H0 G H σ W D s gh hW => by
  obtain ⟨h1, h2⟩ := s.fx i v _ h
  cases h2 _ rfl with
  | of z => cases z
  | ins e a1 a2 a3 =>
    refine ⟨_, h1, _, _, _, rfl, gh _ _ e, hm _ _ _, ?_⟩
    refine ha H0 G H σ s gh _ fun vs G1 H1 e1 b1 => hsp _ _ _ _ ⟨G1, _, vs, _, ds, .er C, rfl, e1.gh, (AtX.ins e a1 a2 a3).up e1.gg, b1, hS, fun _ z => (nomatch z), fun _ z => (nomatch z), fun C' z H' e2 => by cases z; exact hW H' (e1.hh.trans e2)⟩
/-- table(), within a try -/
theorem ev_tableT {c : CA} {W0 : List (List Int)} {rent : Int} {R : List Nat} {E : St → XK} (h : Γ[i]? = some (.fx v (some (hs c.ho W0 rent R)))) (hz : W0.length ≤ 1000) : EvD K (tMethT c.ho "table" (sp_house_table K c) E (tVar i) tNil) Γ (PD.tb W0) := fun H0 G H σ s gh Q k => by
  have h' := ev_table (K := K) (c := c) (E := E σ) (Γ := Γ) (v := v) (i := i) h hz H0 G H σ s gh Q k
  obtain ⟨x, hx, a, dx, fs, e1, e2, e3, e4⟩ := h'
  exact ⟨x, hx, a, dx, fs, e1, e2, e3, e4⟩
theorem rb_make {c : CA} {ta : WX → TA} {w e : PyData} (ha : ∀ W, EvA K (ta W) Γ [w, e]) (hw : okT w) (ht : isTab w = true → rentOk e = false) (hC : C = if isTab w = true then c.be else c.bt) : RaisesB K (fun W => tDrop (tMakeT c.ho (sp_house_init K c) (WE W) (ta W))) Γ C := fun H0 G H σ W D s gh hW => by
  refine ha W H0 G H σ s gh _ fun vs G1 H1 e1 a1 => fun x dx hx hdx ne => ?_
  cases a1 with
  | cons aw a1 =>
    cases a1 with
    | cons ad a1 =>
      cases a1
      have up : Same H1 (upd (upd H1 dx (.own x)) x (.ins c.ho dx [])) := fun b o z => by
        rw [upd_ne (ne_of_none z hx), upd_ne (ne_of_none z hdx)]; exact z
      exact .inl ⟨x, _, _, rfl, G1, [w, e], .er C, e1.gh.trans up, .cons aw (.cons ad .nil), ⟨w, e, rfl, hw, ht, by rw [hC]⟩, fun _ z => (nomatch z), fun _ z => (nomatch z), fun C' z H' e2 => by cases z; exact hW H' ((e1.hh.trans up).trans e2)⟩
/-- f(house, ..), f a contract over a house that is read alone -/
theorem ev_callI {Co : Addr} {S : PyData → List PyData → Res → Prop} {e : PyData} (h : Γ[i]? = some (.fx v (some (hsD Co a b d)))) (ha : EvA K ta Γ ds) (hS : S (hsD Co a b d) ds (.ok e)) : EvD K (tCall (spI K S) [] E (tCons (tVar i) ta)) Γ e := fun H0 G H σ s gh Q q => by
  obtain ⟨h1, h2⟩ := s.fx i v _ h
  cases h2 _ rfl with
  | of z => cases z
  | ins x1 a1 a2 a3 =>
    refine ⟨_, h1, ?_⟩
    refine ha H0 G H σ s gh _ fun vs G1 H1 e1 b1 => ?_
    show spI K S ((_ :: vs) ++ []) H1 Q E
    rw [List.append_nil]
    exact ⟨G1, _, vs, _, ds, .ok e, rfl, e1.gh, (AtX.ins x1 a1 a2 a3).up e1.gg, b1, hS, fun d' z v G' H' e2 a2 => by cases z; exact q v G' H' (e1.trans e2) a2, fun _ z => (nomatch z), fun _ z => (nomatch z)⟩
end
end PD

set_option Elab.async false
set_option linter.all false
set_option maxRecDepth 100000
set_option maxHeartbeats 1000000
namespace PD
open PySem L2
section
variable {W : List (List Int)} {R : List Nat} {n : Nat}
theorem partsOf_at {rent : Int} {k : Nat} (hk : k < n) : (partsOf W R n rent).getD k 0 = (prs W R n).getD k 0 * (n : Int) + (rent - (prs W R n).sum) := by
  unfold partsOf
  rw [List.getD_eq_getElem?_getD, List.getD_eq_getElem?_getD, List.getElem?_map, List.getElem?_eq_getElem (by rw [prs_len]; exact hk)]
  rfl
theorem sum_aff {a b : Int} : ∀ l : List Int, (l.map fun p => p * a + b).sum = l.sum * a + (l.length : Int) * b
  | [] => by simp
  | x :: l => by
    have ih := sum_aff (a := a) (b := b) l
    rw [List.map_cons, List.sum_cons, List.sum_cons, ih, List.length_cons, Int.add_mul]
    push_cast
    rw [Int.add_mul]
    omega
theorem partsOf_sum {rent : Int} : (partsOf W R n rent).sum = (n : Int) * rent := by
  unfold partsOf
  rw [sum_aff, prs_len, Int.mul_sub, Int.mul_comm (prs W R n).sum]
  omega
theorem range_sum : ∀ (ps : List Int), ((List.range ps.length).map fun k => ps.getD k 0).sum = ps.sum := fun ps => by
  congr 1
  refine List.ext_getElem? fun i => ?_
  rw [List.getElem?_map]
  by_cases hi : i < ps.length
  · rw [List.getElem?_range hi, List.getElem?_eq_getElem hi]
    show some (ps.getD i 0) = _
    rw [List.getD_eq_getElem?_getD, List.getElem?_eq_getElem hi]; rfl
  · rw [List.getElem?_eq_none (by simp; omega), List.getElem?_eq_none (by omega)]; rfl
end
section
variable {K : PySem.W.Frag} {c : CA} {E : XK} {Γ : Env} {ds : List PyData} {r : Res} {ta : TA} {H : Hp}
/-! ### _law_deeds -/
def cutI (ns : List Int) (lo hi : Option Int) : List Int := (ns.drop (_root_.HT.sIx ns.length 0 lo)).take (_root_.HT.sIx ns.length ns.length hi - _root_.HT.sIx ns.length 0 lo)
theorem cutD_ints (ns : List Int) (lo hi : Option Int) : cutD (ns.map PyData.int) lo hi = (cutI ns lo hi).map .int := by
  unfold cutD cutI
  rw [List.length_map, List.map_take, List.map_drop]
def deedsHi (ns : List Int) (n : Nat) : Int := if n < 3 then 30 else if n < 5 then 24 else 21 + 2 * (if ce ns 0 / 32 % 4 = 1 then 1 else 0)
def deedsOf (ns : List Int) (n : Nat) : List Int := cutI ns (some 20) (some (deedsHi ns n))
def S_law_deeds (c : CA) (ds : List PyData) (r : Res) : Prop := ∃ (ns : List Int) (n : Nat), ds = [scr ns, .int (n : Int)] ∧ ns.length ≤ 63 ∧ r = .own ((deedsOf ns n).map .int)
abbrev t_law_deeds (K : PySem.W.Frag) (c : CA) (E : XK) : TS :=
  (tSeq (tIfS (tTest (tOp rLtI (tVar 1) (tC (.int 3)))) (tRet (tSl (rSlL K) (tVar 0) (tPart (tC (.int 20))) (tPart (tC (.int 30))))) tNext)
    (tSeq (tIfS (tTest (tOp rLtI (tVar 1) (tC (.int 5)))) (tRet (tSl (rSlL K) (tVar 0) (tPart (tC (.int 20))) (tPart (tC (.int 24))))) tNext)
    (tRet (tSl (rSlL K) (tVar 0) (tPart (tC (.int 20))) (tPart (tOp rAdd3 (tC (.int 21)) (tOp rMul2 (tC (.int 2)) (tCB rInt1V (tCons (tOp (rEq2 K) (tOp rModI (tOp rDivI (tCall (spOf K (S_law_cell_at c)) [] E (tCons (tVar 0) (tCons (tC (.int 0)) tNil))) (tC (.int 32))) (tC (.int 4))) (tC (.int 1))) tNil)))))))))
abbrev N_law_deeds : List Str := ["_law_script", "_law_many"]
theorem ht_law_deeds (h : S_law_deeds c ds r) : HT K E (t_law_deeds K c E) (env0 N_law_deeds ds) (Post r) := by
  obtain ⟨ns, n, rfl, hn, rfl⟩ := h
  show HT K E _ [.da (scr ns), .da (.int (n : Int))] _
  have fin : ∀ {hi : Int}, deedsHi ns n = hi → Post (.own ((deedsOf ns n).map .int)) (.ro (cutD (ns.map PyData.int) (some 20) (some hi))) := fun h => by
    show cutD _ _ _ = _
    rw [cutD_ints, deedsOf, h]
  refine ht_seq (ht_if (b := decide (n < 3)) (evt_eq (et_test (ev_lt (ev_var rfl) ev_int)) (by rw [decide_eq_decide]; omega)) (fun h => ?_) (fun h => ht_next ?_))
  · have h := of_decide_eq_true h
    exact ht_retO (eo_cutScr (ev_var rfl) (ep_some ev_int) (ep_some ev_int)) (fin (by unfold deedsHi; rw [if_pos h]))
  have h0 := of_decide_eq_false h
  refine ht_seq (ht_if (b := decide (n < 5)) (evt_eq (et_test (ev_lt (ev_var rfl) ev_int)) (by rw [decide_eq_decide]; omega)) (fun h => ?_) (fun h => ht_next ?_))
  · have h := of_decide_eq_true h
    exact ht_retO (eo_cutScr (ev_var rfl) (ep_some ev_int) (ep_some ev_int)) (fin (by unfold deedsHi; rw [if_neg h0, if_pos h]))
  have h1 := of_decide_eq_false h
  refine ht_retO (eo_cutScr (ev_var rfl) (ep_some ev_int) (ep_some (ev_add ev_int (ev_mul ev_int (ev_intB (ev_eqI (ev_mod (ev_div (ev_ce (k := 0) (ev_var rfl) ev_int hn) ev_int ⟨by decide, by decide⟩) ev_int (by decide)) ev_int)) (.inl (by decide)))))) (fin ?_)
  unfold deedsHi
  rw [if_neg h0, if_neg h1]
  by_cases e : ce ns 0 / 32 % 4 = 1
  · rw [if_pos e, decide_eq_true e]; rfl
  · rw [if_neg e, decide_eq_false e]; rfl
/-! ### _law_fair -/
def S_law_fair (c : CA) (ds : List PyData) (r : Res) : Prop := ∃ (W : List (List Int)) (R : List Nat) (n : Nat) (rent : Int), Tab W n ∧ Rms R n ∧ (bw W R n).1 = none ∧ ds = [PD.tb W, .tuple [ln R, li (partsOf W R n rent)], .int rent] ∧ r = .ok (.bool true)
abbrev t_law_fair (K : PySem.W.Frag) (c : CA) (E : XK) : TS :=
  (tSeq (tAsg (tCB (rLenV K) (tCons (tVar 0) tNil)) (gName 3))
    (tSeq (tIfS (tOr (tNot (tB (tCB (rIsi K) (tCons (tVar 1) (tCons (tC (.ty "tuple")) tNil))))) (tOr (tTest (tOp (rNe2 K) (tCB (rLenV K) (tCons (tVar 1) tNil)) (tC (.int 2)))) (tNot (tB (tCall (spOf K (S_law_places c)) [] E (tCons (tOp (rIx K) (tVar 1) (tC (.int 0))) (tCons (tVar 3) (tCons (tVar 3) tNil)))))))) (tRet (tC (.bl false))) tNext)
    (tSeq (tAsg (tOp (rIx K) (tVar 1) (tC (.int 0))) (gName 4))
    (tSeq (tAsg (tOp (rIx K) (tVar 1) (tC (.int 1))) (gName 5))
    (tSeq (tAsg (tCall (spOf K (S_prices c)) [] E (tCons (tLc (iList K (tVar 0)) (gName 11) tYes (tCB (rListV K) (tCons (tVar 11) tNil)) [11]) (tCons (tCB (rListV K) (tCons (tVar 4) tNil)) tNil))) (gName 6))
    (tSeq (tIfS (tOr (tNot (tB (tCB (rIsi K) (tCons (tVar 5) (tCons (tC (.ty "list")) tNil))))) (tTest (tOp (rNe2 K) (tCB (rLenV K) (tCons (tVar 5) tNil)) (tVar 3)))) (tRet (tC (.bl false))) tNext)
    (tSeq (tIfS (tOr (tNot (tB (tCB (rIsi K) (tCons (tVar 6) (tCons (tC (.ty "list")) tNil))))) (tTest (tOp (rNe2 K) (tCB (rLenV K) (tCons (tVar 6) tNil)) (tVar 3)))) (tRet (tC (.bl false))) tNext)
    (tSeq (tAsg (tC (.int 0)) (gName 7))
    (tSeq (tFor (iRng1 (tCons (tVar 3) tNil)) (gName 8) (tSeq (tIfS (tOr (tNot (tB (tCall (spOf K (S_law_whole c)) [] E (tCons (tOp (rIx K) (tVar 5) (tVar 8)) tNil)))) (tTest (tOp (rNe2 K) (tOp rSubI (tOp (rIx K) (tVar 5) (tVar 8)) (tOp (rIx K) (tVar 5) (tC (.int 0)))) (tOp rMul2 (tVar 3) (tOp rSubI (tOp (rIx K) (tVar 6) (tVar 8)) (tOp (rIx K) (tVar 6) (tC (.int 0)))))))) (tRet (tC (.bl false))) tNext)
    (tAsg (tOp rAdd3 (tVar 7) (tOp (rIx K) (tVar 5) (tVar 8))) (gName 7))))
    (tSeq (tFor (iRng1 (tCons (tVar 3) tNil)) (gName 9) (tFor (iRng1 (tCons (tVar 3) tNil)) (gName 8) (tSeq (tAsg (tOp rMul2 (tVar 3) (tOp rSubI (tOp (rIx K) (tOp (rIx K) (tVar 0) (tVar 9)) (tVar 8)) (tOp (rIx K) (tOp (rIx K) (tVar 0) (tVar 9)) (tOp (rIx K) (tVar 4) (tVar 9))))) (gName 10))
    (tIfS (tTest (tOp rGtI (tOp rAdd3 (tOp rSubI (tVar 10) (tOp (rIx K) (tVar 5) (tVar 8))) (tOp (rIx K) (tVar 5) (tOp (rIx K) (tVar 4) (tVar 9)))) (tC (.int 0)))) (tRet (tC (.bl false))) tNext))))
    (tRet (tOp (rEq2 K) (tVar 7) (tOp rMul2 (tVar 3) (tVar 2))))))))))))))
abbrev N_law_fair : List Str := ["_law_table", "_law_found", "_law_rent", "_law_many", "_law_rooms", "_law_parts", "_law_row", "_law_whole_here", "_law_room", "_law_one", "_law_more", "_law_wishes"]
theorem ht_law_fair (h : S_law_fair c ds r) : HT K E (t_law_fair K c E) (env0 N_law_fair ds) (Post r) := by
  obtain ⟨W, R, n, rent, t, q, e, rfl, rfl⟩ := h
  have n8 := t.hi
  have n1 := t.lo
  have np := (prs_calm q e).2
  have pl := partsOf_len (W := W) (R := R) (n := n) (rent := rent)
  have pa : ∀ k, k < n → (partsOf W R n rent).getD k 0 = (prs W R n).getD k 0 * (n : Int) + (rent - (prs W R n).sum) := fun k hk => partsOf_at hk
  have ps := partsOf_sum (W := W) (R := R) (n := n) (rent := rent)
  have rl := prs_len (W := W) (R := R) (n := n)
  generalize partsOf W R n rent = Q at pl pa ps ⊢
  show HT K E _ [.da (PD.tb W), .da (.tuple [ln R, li Q]), .da (.int rent), .no, .no, .no, .no, .no, .no, .no, .no, .no] _
  have lW : (W.map li).length = n := by rw [List.length_map, t.len]
  have lR : (lnL R).length = n := by rw [List.length_map, q.len]
  have lQ : (Q.map PyData.int).length = n := by rw [List.length_map, pl]
  refine ht_seq (ht_asg (d := .int (n : Int)) (evd_eq (ev_lenL (ev_var rfl)) (by rw [lW])) ?_)
  refine ht_seq (ht_if (b := false) (evt_eq (et_or (et_not (et_B (ev_isi (ev_var rfl) (kit_tup _)))) fun _ => et_or (et_test (ev_neI (ev_lenT (ev_var rfl)) ev_int)) fun _ => et_not (et_B (ev_places (Q := R) (m := n) (by rw [q.len]; omega) q.lt q.nd (ev_ixT (ev_var rfl) ev_int rfl) (ev_var rfl) (evd_eq (ev_var rfl) (by rw [q.len]))))) (by simp [isTup])) (fun z => nomatch z) fun _ => ht_next ?_)
  refine ht_seq (ht_asg (d := ln R) (ev_ixT (ev_var rfl) ev_int rfl) ?_)
  refine ht_seq (ht_asg (d := li Q) (ev_ixT (ev_var rfl) ev_int rfl) ?_)
  refine ht_seq (ht_asg (d := li (prs W R n)) (EvO.toD (eo_prices t q e (EvO.toD (eo_copy (W := W) (ev_var rfl) (show 11 < 12 by decide) (by rw [t.len]; omega))) (EvO.toD (eo_list (ev_var rfl))))) ?_)
  generalize prs W R n = V at np rl pa ⊢
  have lV : (V.map PyData.int).length = n := by rw [List.length_map, rl]
  show HT K E _ [.da (PD.tb W), .da (.tuple [ln R, li Q]), .da (.int rent), .da (.int (n : Int)), .da (ln R), .da (li Q), .da (li V), .no, .no, .no, .no, .no] _
  refine ht_seq (ht_if (b := false) (evt_eq (et_or (et_not (et_B (ev_isi (ev_var rfl) (kit_list _)))) fun _ => et_test (ev_neI (ev_lenL (ev_var rfl)) (ev_var rfl))) (by rw [lQ]; simp [isList])) (fun z => nomatch z) fun _ => ht_next ?_)
  refine ht_seq (ht_if (b := false) (evt_eq (et_or (et_not (et_B (ev_isi (ev_var rfl) (kit_list _)))) fun _ => et_test (ev_neI (ev_lenL (ev_var rfl)) (ev_var rfl))) (by rw [lV]; simp [isList])) (fun z => nomatch z) fun _ => ht_next ?_)
  refine ht_seq (ht_asg ev_int ?_)
  refine ht_seq (ht_forR (n := (n : Int)) (fun k Γ' => ∃ s8, Γ' = [.da (PD.tb W), .da (.tuple [ln R, li Q]), .da (.int rent), .da (.int (n : Int)), .da (ln R), .da (li Q), .da (li V), .da (.int ((List.range k).map fun i => Q.getD i 0).sum), s8, .no, .no, .no]) (ea_cons (ev_var rfl) ea_nil) (by omega) ⟨_, rfl⟩ ?_ ?_)
  · rintro k Γ' hk ⟨s8, rfl⟩
    have hk : k < n := by omega
    have it := fun {Γ' : Env} (h2 : Γ'[5]? = some (.da (li Q))) (h7 : Γ'[8]? = some (.da (.int (k : Int)))) => ev_at (K := K) (Γ := Γ') (ta := tVar 5) (tb := tVar 8) (ns := Q) (i := k) (ev_var h2) (ev_var h7) (by omega)
    refine ht_seq (ht_if (b := false) (evt_eq (et_or (et_not (et_B (ev_wholeL (it rfl rfl)))) fun _ => et_test (ev_neI (ev_sub (it rfl rfl) (ev_at (i := 0) (ev_var rfl) ev_int (by omega))) (ev_mul (ev_var rfl) (ev_sub (ev_at (ev_var rfl) (ev_var rfl) (by omega)) (ev_at (i := 0) (ev_var rfl) ev_int (by omega))) (.inl (by omega))))) ?_) (fun z => nomatch z) fun _ => ht_next ?_)
    · rw [pa k hk, pa 0 (by omega)]
      have e : V.getD k 0 * (n : Int) + (rent - V.sum) - (V.getD 0 0 * (n : Int) + (rent - V.sum)) = (n : Int) * (V.getD k 0 - V.getD 0 0) := by
        rw [Int.mul_sub, Int.mul_comm (V.getD k 0), Int.mul_comm (V.getD 0 0)]; omega
      rw [decide_eq_true e]
      rfl
    · refine ht_asg (ev_add (ev_var rfl) (it rfl rfl)) ⟨.da (.int (k : Int)), ?_⟩
      rw [List.range_succ, List.map_append, List.sum_append]
      simp
  · rintro Γ' ⟨s8, rfl⟩
    rw [Int.toNat_natCast]
    have es : ((List.range n).map fun i => Q.getD i 0).sum = (n : Int) * rent := by rw [← ps, ← range_sum Q, pl]
    rw [es]
    refine ht_seq (ht_forR (n := (n : Int)) (fun k Γ' => ∃ s8 s9 s10, Γ' = [.da (PD.tb W), .da (.tuple [ln R, li Q]), .da (.int rent), .da (.int (n : Int)), .da (ln R), .da (li Q), .da (li V), .da (.int ((n : Int) * rent)), s8, s9, s10, .no]) (ea_cons (ev_var rfl) ea_nil) (by omega) ⟨_, _, _, rfl⟩ ?_ ?_)
    · rintro i Γ' hi ⟨s8, s9, s10, rfl⟩
      have hi : i < n := by omega
      have hr := q.at_lt hi
      refine ht_forR (n := (n : Int)) (fun m Γ' => ∃ s8 s10, Γ' = [.da (PD.tb W), .da (.tuple [ln R, li Q]), .da (.int rent), .da (.int (n : Int)), .da (ln R), .da (li Q), .da (li V), .da (.int ((n : Int) * rent)), s8, .da (.int (i : Int)), s10, .no]) (ea_cons (ev_var rfl) ea_nil) (by omega) ⟨s8, s10, rfl⟩ ?_ ?_
      · rintro m Γ' hm ⟨s8, s10, rfl⟩
        have hm : m < n := by omega
        have h1 := np i m hi hm
        have h2 := Int.mul_le_mul_of_nonneg_left h1 (show (0 : Int) ≤ (n : Int) by omega)
        rw [Int.mul_sub, Int.mul_sub] at h2
        refine ht_seq (ht_asg (ev_mul (ev_var rfl) (ev_sub (ev_cell t (ev_var rfl) (ev_var rfl) (ev_var rfl) hi hm) (ev_cell t (ev_var rfl) (ev_var rfl) (ev_roomOf q (ev_var rfl) (ev_var rfl) hi) hi hr)) (.inl (by omega))) ?_)
        refine ht_if (b := false) (evt_eq (et_test (ev_gt (ev_add (ev_sub (ev_var rfl) (ev_at (ev_var rfl) (ev_var rfl) (by omega))) (ev_at (ev_var rfl) (ev_roomOf q (ev_var rfl) (ev_var rfl) hi) (by omega))) ev_int)) (decide_eq_false ?_)) (fun z => nomatch z) fun _ => ht_next ⟨_, _, rfl⟩
        rw [pa m hm, pa _ hr, Int.mul_sub, Int.mul_comm (V.getD m 0), Int.mul_comm (V.getD (R.getD i 0) 0)]
        omega
      · rintro Γ' ⟨s8, s10, rfl⟩
        exact ⟨_, _, _, rfl⟩
    · rintro Γ' ⟨s8, s9, s10, rfl⟩
      exact ht_ret (d := .bool true) (evd_eq (ev_eqI (ev_var rfl) (ev_mul (ev_var rfl) (ev_var rfl) (.inl (by omega)))) (by simp)) rfl
/-! ### _law_refused -/
structure EX10 (K : PySem.W.Frag) (c : CA) : Prop where
  rr : PySem.W.exmOne K (.ref c.br) (.ref c.br) = some true
  tr : PySem.W.exmOne K (.ref c.bt) (.ref c.br) = some false
  tt : PySem.W.exmOne K (.ref c.bt) (.ref c.bt) = some true
  er : PySem.W.exmOne K (.ref c.be) (.ref c.br) = some false
  et : PySem.W.exmOne K (.ref c.be) (.ref c.bt) = some false
  ee : PySem.W.exmOne K (.ref c.be) (.ref c.be) = some true
def S_refused (c : CA) (h : PyData) (ds : List PyData) (r : Res) : Prop := ∃ (W : List (List Int)) (n : Nat) (rent : Int) (R : List Nat) (d : Nat) (k : Int), h = hs c.ho W rent R ∧ Tab W n ∧ Rms R n ∧ (bw W R n).1 = none ∧ d < 6 ∧ ds = [.int (d : Int), .int k] ∧ r = .ok (.bool true)
abbrev sp_law_refused_k10 (K : PySem.W.Frag) (c : CA) : Sp := spI K (S_refused c)
abbrev t_law_refused_k10 (K : PySem.W.Frag) (c : CA) (E : XK) : TS :=
  (tSeq (tAsg (tOp (rIx K) (tLst (tCons (tUn (rU fun i => .int (-i)) (tC (.int 1))) (tCons (tCB (rLenV K) (tCons (tMeth c.ho "table" (sp_house_table K c) [] E (tVar 0) tNil) tNil)) (tCons (tC (.bl true)) (tCons (tC (.str "0")) (tCons (tC .non) (tCons (tC (.bl false)) (tCons (tLst (tCons (tC (.int 0)) tNil)) (tCons tDNewK tNil))))))))) (tOp rModI (tOp rDivI (tVar 2) (tC (.int 6))) (tC (.int 8)))) (gName 3))
    (tSeq (tAsg (tOp (rIx K) (tLst (tCons (tUn (rU fun i => .int (-i)) (tC (.int 1))) (tCons (tC (.int 1000001)) (tCons (tC (.bl true)) (tCons (tC (.str "0")) (tCons (tC .non) (tCons (tC (.bl false)) (tCons (tLst (tCons (tC (.int 0)) tNil)) (tCons tDNewK tNil))))))))) (tOp rModI (tOp rDivI (tVar 2) (tC (.int 6))) (tC (.int 8)))) (gName 4))
    (tSeq (tAsg (tOp (rIx K) (tLst (tCons (tUn (rU fun i => .int (-i)) (tC (.int 1))) (tCons (tC (.int 1000000001)) (tCons (tC (.bl true)) (tCons (tC (.str "0")) (tCons (tC .non) (tCons (tC (.bl false)) (tCons (tLst (tCons (tC (.int 0)) tNil)) (tCons tDNewK tNil))))))))) (tOp rModI (tOp rDivI (tVar 2) (tC (.int 6))) (tC (.int 8)))) (gName 5))
    (tSeq (tTryMany K (fun W => (tIfS (tTest (tOp (rEq2 K) (tVar 1) (tC (.int 0)))) (tDrop (tMethT c.ho "wish" (sp_house_wish_k10 K c) (WE W) (tVar 0) (tCons (tVar 3) (tCons (tC .non) (tCons (tC .non) tNil))))) (tIfS (tTest (tOp (rEq2 K) (tVar 1) (tC (.int 1)))) (tDrop (tMethT c.ho "wish" (sp_house_wish_k10 K c) (WE W) (tVar 0) (tCons (tC (.int 0)) (tCons (tVar 3) (tCons (tC .non) tNil))))) (tIfS (tTest (tOp (rEq2 K) (tVar 1) (tC (.int 2)))) (tDrop (tMethT c.ho "wish" (sp_house_wish_k10 K c) (WE W) (tVar 0) (tCons (tC (.int 0)) (tCons (tC (.int 0)) (tCons (tVar 4) tNil))))) (tIfS (tTest (tOp (rEq2 K) (tVar 1) (tC (.int 3)))) (tDrop (tMethT c.ho "charge" (sp_house_charge_k10 K c) (WE W) (tVar 0) (tCons (tVar 5) tNil))) (tIfS (tTest (tOp (rEq2 K) (tVar 1) (tC (.int 4)))) (tDrop (tMethT c.ho "bill" (sp_house_bill_k10 K c) (WE W) (tVar 0) (tCons (tVar 3) tNil))) (tDrop (tMakeT c.ho (sp_house_init K c) (WE W) (tCons (tMethT c.ho "table" (sp_house_table K c) (WE W) (tVar 0) tNil) (tCons (tVar 5) tNil)))))))))) [(.ref c.br, (fun a cls d => (tRet (tOrV (tOp rLtI (tVar 1) (tC (.int 2))) (tOp (rEq2 K) (tVar 1) (tC (.int 4))))))), (.ref c.bt, (fun a cls d => (tRet (tOp (rEq2 K) (tVar 1) (tC (.int 2)))))), (.ref c.be, (fun a cls d => (tRet (tOrV (tOp (rEq2 K) (tVar 1) (tC (.int 3))) (tOp (rEq2 K) (tVar 1) (tC (.int 5)))))))] (fun cls d _ H => E cls d H))
    (tRet (tC (.bl false)))))))
abbrev N_law_refused_k10 : List Str := ["_law_house", "_law_deed", "_law_kind", "_law_bad", "_law_coins", "_law_rent"]
theorem lenr_law_refused_k10 {vs : List V} {Q : VK} (h : sp_law_refused_k10 K c vs H Q E) : vs.length = 3 := by
  obtain ⟨G, x, vs', h, ds, r, rfl, gh, ax, a, ⟨W, n, rent, R, d, k, _, _, _, _, _, rfl, _⟩, _⟩ := h
  have := a.length
  simp at this ⊢
  omega
def badL (x : Int) : List PyData := [.int (-1), .int x, .bool true, .str "0", .none, .bool false, .list [.int 0], .dict []]
theorem ev_badL {x : Int} {te : TE} (h : EvD K te Γ (.int x)) : EvD K (tLst (tCons (tUn (rU fun i => .int (-i)) (tC (.int 1))) (tCons te (tCons (tC (.bl true)) (tCons (tC (.str "0")) (tCons (tC .non) (tCons (tC (.bl false)) (tCons (tLst (tCons (tC (.int 0)) tNil)) (tCons tDNewK tNil))))))))) Γ (.list (badL x)) :=
  EvO.toD (eo_lst (ea_cons (ev_neg ev_int) (ea_cons h (ea_cons ev_bl (ea_cons ev_str (ea_cons ev_non (ea_cons ev_bl (ea_cons (EvO.toD (eo_lst (ea_cons ev_int ea_nil) (by simp))) (ea_cons ev_dnew ea_nil)))))))) (show 8 ≤ 100000 by decide))
theorem bad_cases {x : Int} {P : PyData → Prop} (k : Nat) (hk : k < 8) (h0 : P (.int (-1))) (h1 : P (.int x)) (h : ∀ d, whole d = false → P d) : P ((badL x).getD k .none) := by
  match k, hk with
  | 0, _ => exact h0
  | 1, _ => exact h1
  | 2, _ => exact h _ rfl
  | 3, _ => exact h _ rfl
  | 4, _ => exact h _ rfl
  | 5, _ => exact h _ rfl
  | 6, _ => exact h _ rfl
  | 7, _ => exact h _ rfl
theorem place_no {d : PyData} {n : Nat} (h : whole d = false) : placeOk d n = false := by cases d <;> first | rfl | cases h
theorem coin_no {d : PyData} (h : whole d = false) : coinOk d = false := by cases d <;> first | rfl | cases h
theorem rent_no {d : PyData} (h : whole d = false) : rentOk d = false := by cases d <;> first | rfl | cases h
theorem htr_law_refused_k10 (F : HK K c.ho) (X : EX10 K c) {vs : List V} {Q : VK} (h : sp_law_refused_k10 K c vs H Q E) : t_law_refused_k10 K c E { nx := fun _ H' => Q .non H', rt := Q } (L2.start N_law_refused_k10 vs) H := by
  refine body_I h fun v h ds r hS => ?_
  obtain ⟨W, n, rent, R, d, k, rfl, t, q, en, hd, rfl, rfl⟩ := hS
  show HT K E _ [.fx v (some (hs c.ho W rent R)), .da (.int (d : Int)), .da (.int k), .no, .no, .no] _
  have n1 := t.lo
  have lW : (W.map li).length = n := by rw [List.length_map, t.len]
  have hm : ∃ m : Nat, k / 6 % 8 = (m : Int) ∧ m < 8 := ⟨(k / 6 % 8).toNat, by omega, by omega⟩
  obtain ⟨m, em, hm⟩ := hm
  have ix : ∀ {Γ : Env}, Γ[2]? = some (.da (.int k)) → EvD K (tOp rModI (tOp rDivI (tVar 2) (tC (.int 6))) (tC (.int 8))) Γ (.int (m : Int)) := fun h2 => evd_eq (ev_mod (ev_div (ev_var h2) ev_int ⟨by decide, by decide⟩) ev_int (by decide)) (congrArg PyData.int em)
  refine ht_seq (ht_asg (ev_pick (k := m) (ev_badL (x := (n : Int)) (evd_eq (ev_lenL (ev_table (W := W) rfl (by rw [t.len]; have := t.hi; omega))) (by rw [lW]))) (ix rfl) hm) ?_)
  refine ht_seq (ht_asg (ev_pick (k := m) (ev_badL (x := 1000001) ev_int) (ix rfl) hm) ?_)
  refine ht_seq (ht_asg (ev_pick (k := m) (ev_badL (x := 1000000001) ev_int) (ix rfl) hm) ?_)
  have b1 : placeOk ((badL (n : Int)).getD m .none) n = false := bad_cases (P := fun d => placeOk d n = false) m hm rfl (show placeOk (.int (n : Int)) n = false by simp [placeOk]) fun d h => place_no h
  have b2 : coinOk ((badL 1000001).getD m .none) = false := bad_cases (P := fun d => coinOk d = false) m hm rfl rfl fun d h => coin_no h
  have b3 : rentOk ((badL 1000000001).getD m .none) = false := bad_cases (P := fun d => rentOk d = false) m hm rfl rfl fun d h => rent_no h
  generalize (badL (n : Int)).getD m .none = d1 at b1
  generalize (badL 1000001).getD m .none = d2 at b2
  generalize (badL 1000000001).getD m .none = d3 at b3
  show HT K E _ [.fx v (some (hs c.ho W rent R)), .da (.int (d : Int)), .da (.int k), .da d1, .da d2, .da d3] _
  have z0 : placeOk (.int 0) n = true := by simp [placeOk]; omega
  have eqD : ∀ j : Nat, EvT K (tTest (tOp (rEq2 K) (tVar 1) (tC (.int (j : Int))))) [.fx v (some (hs c.ho W rent R)), .da (.int (d : Int)), .da (.int k), .da d1, .da d2, .da d3] (decide (d = j)) := fun j => evt_eq (et_test (ev_eqI (ev_var rfl) ev_int)) (by rw [decide_eq_decide]; omega)
  have sR : Sel K c.br [(.ref c.br, fun a cls d => tRet (tOrV (tOp rLtI (tVar 1) (tC (.int 2))) (tOp (rEq2 K) (tVar 1) (tC (.int 4))))), (.ref c.bt, fun a cls d => tRet (tOp (rEq2 K) (tVar 1) (tC (.int 2)))), (.ref c.be, fun a cls d => tRet (tOrV (tOp (rEq2 K) (tVar 1) (tC (.int 3))) (tOp (rEq2 K) (tVar 1) (tC (.int 5)))))] (fun a cls d => tRet (tOrV (tOp rLtI (tVar 1) (tC (.int 2))) (tOp (rEq2 K) (tVar 1) (tC (.int 4))))) := .here X.rr
  have sT : Sel K c.bt [(.ref c.br, fun a cls d => tRet (tOrV (tOp rLtI (tVar 1) (tC (.int 2))) (tOp (rEq2 K) (tVar 1) (tC (.int 4))))), (.ref c.bt, fun a cls d => tRet (tOp (rEq2 K) (tVar 1) (tC (.int 2)))), (.ref c.be, fun a cls d => tRet (tOrV (tOp (rEq2 K) (tVar 1) (tC (.int 3))) (tOp (rEq2 K) (tVar 1) (tC (.int 5)))))] (fun a cls d => tRet (tOp (rEq2 K) (tVar 1) (tC (.int 2)))) := .next X.tr (.here X.tt)
  have sE : Sel K c.be [(.ref c.br, fun a cls d => tRet (tOrV (tOp rLtI (tVar 1) (tC (.int 2))) (tOp (rEq2 K) (tVar 1) (tC (.int 4))))), (.ref c.bt, fun a cls d => tRet (tOp (rEq2 K) (tVar 1) (tC (.int 2)))), (.ref c.be, fun a cls d => tRet (tOrV (tOp (rEq2 K) (tVar 1) (tC (.int 3))) (tOp (rEq2 K) (tVar 1) (tC (.int 5)))))] (fun a cls d => tRet (tOrV (tOp (rEq2 K) (tVar 1) (tC (.int 3))) (tOp (rEq2 K) (tVar 1) (tC (.int 5))))) := .next X.er (.next X.et (.here X.ee))
  have wi : ∀ vs H Q E, spI K (S_wishX c) vs H Q E → sp_house_wish_k10 K c vs H Q E := fun _ _ _ _ h => .inl h
  have ch : ∀ vs H Q E, spI K (S_chargeX c) vs H Q E → sp_house_charge_k10 K c vs H Q E := fun _ _ _ _ h => .inl h
  have bi : ∀ vs H Q E, spI K (S_bill c) vs H Q E → sp_house_bill_k10 K c vs H Q E := fun _ _ _ _ h => h
  match d, hd with
  | 0, _ =>
    refine ht_seq (ht_tryMany (rb_if (eqD 0) (fun _ => rb_meth wi no_wish rfl (ea_cons (ev_var rfl) (ea_two ev_non ev_non)) ⟨W, n, rent, R, _, _, _, rfl, t, rfl, .inl ⟨b1, rfl⟩⟩) fun z => nomatch z) sR fun a => ?_)
    exact ht_ret (d := .bool true) (evd_eq (ev_or (b := false) (ev_lt (ev_var rfl) ev_int) fun z => nomatch z) rfl) rfl
  | 1, _ =>
    refine ht_seq (ht_tryMany (rb_if (eqD 0) (fun z => nomatch z) fun _ => rb_if (eqD 1) (fun _ => rb_meth wi no_wish rfl (ea_cons ev_int (ea_two (ev_var rfl) ev_non)) ⟨W, n, rent, R, _, _, _, rfl, t, rfl, .inr (.inl ⟨z0, b1, rfl⟩)⟩) fun z => nomatch z) sR fun a => ?_)
    exact ht_ret (d := .bool true) (evd_eq (ev_or (b := false) (ev_lt (ev_var rfl) ev_int) fun z => nomatch z) rfl) rfl
  | 2, _ =>
    refine ht_seq (ht_tryMany (rb_if (eqD 0) (fun z => nomatch z) fun _ => rb_if (eqD 1) (fun z => nomatch z) fun _ => rb_if (eqD 2) (fun _ => rb_meth wi no_wish rfl (ea_cons ev_int (ea_two ev_int (ev_var rfl))) ⟨W, n, rent, R, _, _, _, rfl, t, rfl, .inr (.inr ⟨z0, z0, b2, rfl⟩)⟩) fun z => nomatch z) sT fun a => ?_)
    exact ht_ret (d := .bool true) (evd_eq (ev_eqI (ev_var rfl) ev_int) rfl) rfl
  | 3, _ =>
    refine ht_seq (ht_tryMany (rb_if (eqD 0) (fun z => nomatch z) fun _ => rb_if (eqD 1) (fun z => nomatch z) fun _ => rb_if (eqD 2) (fun z => nomatch z) fun _ => rb_if (eqD 3) (fun _ => rb_meth ch no_charge rfl (ea_cons (ev_var rfl) ea_nil) ⟨_, rfl, b3, rfl⟩) fun z => nomatch z) sE fun a => ?_)
    exact ht_ret (d := .bool true) (evd_eq (ev_or (b := false) (ev_eqI (ev_var rfl) ev_int) fun z => nomatch z) rfl) rfl
  | 4, _ =>
    refine ht_seq (ht_tryMany (rb_if (eqD 0) (fun z => nomatch z) fun _ => rb_if (eqD 1) (fun z => nomatch z) fun _ => rb_if (eqD 2) (fun z => nomatch z) fun _ => rb_if (eqD 3) (fun z => nomatch z) fun _ => rb_if (eqD 4) (fun _ => rb_meth bi no_bill rfl (ea_cons (ev_var rfl) ea_nil) ⟨W, n, rent, R, rfl, t, q, en, .inr ⟨_, rfl, b1, rfl⟩⟩) fun z => nomatch z) sR fun a => ?_)
    exact ht_ret (d := .bool true) (evd_eq (ev_or (b := true) (ev_lt (ev_var rfl) ev_int) fun _ => evd_eq (ev_eqI (ev_var rfl) ev_int) rfl) rfl) rfl
  | 5, _ =>
    refine ht_seq (ht_tryMany (rb_if (eqD 0) (fun z => nomatch z) fun _ => rb_if (eqD 1) (fun z => nomatch z) fun _ => rb_if (eqD 2) (fun z => nomatch z) fun _ => rb_if (eqD 3) (fun z => nomatch z) fun _ => rb_if (eqD 4) (fun z => nomatch z) fun _ => rb_make (w := PD.tb W) (e := d3) (fun W' => ea_two (ev_tableT rfl (by rw [t.len]; have := t.hi; omega)) (ev_var rfl)) (okT_tb W) (fun _ => b3) (by rw [if_pos t.is])) sE fun a => ?_)
    exact ht_ret (d := .bool true) (evd_eq (ev_or (b := true) (ev_eqI (ev_var rfl) ev_int) fun _ => evd_eq (ev_eqI (ev_var rfl) ev_int) rfl) rfl) rfl
end
end PD

set_option Elab.async false
set_option linter.all false
set_option maxRecDepth 100000
set_option maxHeartbeats 1000000
namespace PD
open PySem L2
/-- slots of which nothing is said -/
theorem sat_no {K : PySem.W.Frag} {H0 G H : Hp} {σ : St} {Γ : Env} (hl : σ.length = Γ.length) (h : ∀ x ∈ Γ, x = .no) : Sat K H0 G H σ Γ := by
  have no : ∀ {i : Nat} {x : Sl}, Γ[i]? = some x → x = .no := fun q => h _ (List.mem_of_getElem? q)
  exact ⟨hl, fun i d q => (nomatch (no q)), fun i ds q => (nomatch (no q)), fun i j di dj p q => (nomatch (no q)), fun i ks q => (nomatch (no q)), fun i j di dj p q => (nomatch (no q)), fun i v o q => (nomatch (no q))⟩
/-- a new pair of new lists -/
structure Prd (O : Hp) (t p q : Addr) (a b : List Int) : Prop where
  ht : O t = some (.tup [.ref p, .ref q])
  hp : O p = some (.lst (a.map .int))
  hq : O q = some (.lst (b.map .int))
  pq : p ≠ q
theorem Prd.at {K : PySem.W.Frag} {O : Hp} {t p q : Addr} {a b : List Int} (h : Prd O t p q a b) : At K O (.ref t) (.tuple [li a, li b]) :=
  .tup h.ht (.cons (.lst h.hp (atAll_ints a)) (.cons (.lst h.hq (atAll_ints b)) .nil))
theorem Prd.up {O O' : Hp} {t p q : Addr} {a b : List Int} (h : Prd O t p q a b) (e : Same O O') : Prd O' t p q a b := ⟨e _ _ h.ht, e _ _ h.hp, e _ _ h.hq, h.pq⟩
section
variable {K : PySem.W.Frag} {c : CA} {E : XK} {H0 Gs G H H' O : Hp} {Os : List Hp} {σ : St} {Γ Γ2 : Env} {D : Ends} {i j : Nat} {ta : TA} {te tb : TE} {ds : List PyData} {W : List (List Int)} {R R' : List Nat} {n k : Nat} {rent : Int} {v : V} {r : Res} {vs : List V} {Q : VK}
/-- xs.append(e), xs in a piece -/
theorem app_fr {p : Addr} {us : List V} {F : V → Hp → Prop} (oh : Same O H) (hp : O p = some (.lst us)) (hz : us.length ≤ 10000) (hb : ∀ Q : VK, Q (.ref p) H → tb σ H Q)
    (he : ∀ Q : VK, (∀ v H1, Same H H1 → F v H1 → Q v H1) → te σ H Q) (k : ∀ v H1, Same H H1 → F v H1 → Fr O H1 (upd O p (.lst (us ++ [v]))) (upd H1 p (.lst (us ++ [v]))) → D.nx σ (upd H1 p (.lst (us ++ [v])))) : tDrop (tBM K "list" rAppend tb (tCons te tNil)) D σ H := by
  refine hb _ ⟨.inl ⟨rfl, us, SqL.of (oh _ _ hp)⟩, ?_⟩
  refine he _ fun v H1 e f => ?_
  have nO : O p ≠ none := some_ne hp
  refine ⟨p, us, v, rfl, rfl, e _ _ (oh _ _ hp), Nat.lt_of_le_of_lt hz (by decide), k v H1 e f ⟨fun a o z => ?_, fun a o z nz => ?_, fun a nz => ?_⟩⟩
  · by_cases y : a = p
    · subst y; rw [upd_same] at z ⊢; exact z
    · rw [upd_ne y] at z ⊢; exact e _ _ (oh _ _ z)
  · have y : a ≠ p := fun w => nO (w ▸ nz)
    rw [upd_ne y]; exact z
  · by_cases y : a = p
    · subst y; exact .inl nO
    · rw [upd_ne y] at nz; exact .inl nz
/-- .. xs a new list -/
theorem app_new (hb : ∀ Q : VK, (∀ b H1 us, Same H H1 → H b = none → H1 b = some (.lst us) → us.length ≤ 10000 → Q (.ref b) H1) → tb σ H Q) {x : V} (k : ∀ H2, Same H H2 → D.nx σ H2) : tDrop (tBM K "list" rAppend tb (tCons (tC x) tNil)) D σ H := by
  refine hb _ fun b H1 us e hb hb1 hz => ⟨.inl ⟨rfl, us, SqL.of hb1⟩, ?_⟩
  refine ⟨b, us, x, rfl, rfl, hb1, Nat.lt_of_le_of_lt hz (by decide), k _ fun a o z => ?_⟩
  rw [upd_ne (ne_of_none z hb)]; exact e _ _ z
theorem Rw.asgDeal (r : Rw K H0 Gs G Os H σ Γ) (s2 : Sat K H0 (lend G Os) H σ Γ2) (hj : Γ2[j]? = some (.fx v (some (hs c.ho W rent R)))) (t : Tab W n) (q : Rms R n) (e : (bw W R n).1 = none)
    (kk : ∀ O t p q H', Prd O t p q (lnI R) (partsOf W R n rent) → Rw K H0 Gs G (O :: Os) H' (σ.set i (some (.ref t))) (Γ.set i (.rf t)) → D.nx (σ.set i (some (.ref t))) H') : tAsg (tMeth c.ho "deal" (sp_house_deal K c) [] E (tVar j) tNil) (gName i) D σ H :=
  meth_run no_deal hj s2 r.le.2.1 fun x _ ax => ⟨lend G Os, x, W, n, rent, R, rfl, r.le.2.1, ax, t, q, e, fun G' H' t p q ex ht hp hq _ _ _ pq e1 e2 e3 => by
    have fr := fr_cut (l := [t, p, q]) ex.hh fun a ha => by
      rcases List.mem_cons.mp ha with z | z
      · rw [z]; exact ht
      · rcases List.mem_cons.mp z with z | z
        · rw [z]; exact hp
        · rw [List.mem_singleton.mp z]; exact hq
    exact kk (cut H' [t, p, q]) t p q H' ⟨by rw [cut_in (by simp)]; exact e1, by rw [cut_in (by simp)]; exact e2, by rw [cut_in (by simp)]; exact e3, pq⟩ ((r.new fr).setR)⟩
/-! ### _law_asked -/
def dealD (W : List (List Int)) (R : List Nat) (n : Nat) (rent : Int) : PyData := .tuple [ln R, li (partsOf W R n rent)]
def copyD (W : List (List Int)) (R : List Nat) (n : Nat) (rent : Int) : PyData := .list [dealD W R n rent, PD.tb W]
def askedD (W : List (List Int)) (R : List Nat) (n : Nat) (rent : Int) : PyData := .tuple [copyD W R n rent, copyD W R n rent]
theorem shp_copyD : Shp 3 (copyD W R n rent) := shp_listI fun x hx => by
  rcases List.mem_cons.mp hx with e | e
  · rw [e]
    exact shp_tup fun y hy => by
      rcases List.mem_cons.mp hy with e | e
      · rw [e]; exact shp_ln _
      · rw [List.mem_singleton.mp e]; exact shp_li _
  · rw [List.mem_singleton.mp e]; exact shp_tb _
def sp_law_asked_k10 (K : PySem.W.Frag) (c : CA) : Sp := fun vs H Q E => ∃ (G : Hp) (x : Addr) (W : List (List Int)) (n : Nat) (rent : Int) (R : List Nat), vs = [.ref x] ∧ Same G H ∧ AtX K G (.ref x) (hs c.ho W rent R) ∧ Tab W n ∧ Rms R n ∧ (bw W R n).1 = none ∧
  ∀ v H' Gn, Same H H' → Same Gn H' → (∀ a, Gn a ≠ none → H a = none) → At K Gn v (askedD W R n rent) → Q v H'
abbrev t_law_asked_k10 (K : PySem.W.Frag) (c : CA) (E : XK) : TS :=
  (tSeq (tAsg (tMeth c.ho "deal" (sp_house_deal K c) [] E (tVar 0) tNil) (gName 1))
    (tSeq (tAsg (tMeth c.ho "table" (sp_house_table K c) [] E (tVar 0) tNil) (gName 2))
    (tRet (tTup (tCons (tLst (tCons (tVar 1) (tCons (tVar 2) tNil))) (tCons (tLst (tCons (tTup (tCons (tCB (rListV K) (tCons (tOp (rIx K) (tVar 1) (tC (.int 0))) tNil)) (tCons (tCB (rListV K) (tCons (tOp (rIx K) (tVar 1) (tC (.int 1))) tNil)) tNil))) (tCons (tLc (iList K (tVar 2)) (gName 3) tYes (tCB (rListV K) (tCons (tVar 3) tNil)) [3]) tNil))) tNil))))))
abbrev N_law_asked_k10 : List Str := ["_law_house", "_law_deal", "_law_table", "_law_row"]
theorem lenr_law_asked_k10 (h : sp_law_asked_k10 K c vs H Q E) : vs.length = 1 := by
  obtain ⟨G, x, W, n, rent, R, rfl, _⟩ := h
  rfl
theorem htr_law_asked_k10 (F : HK K c.ho) (h : sp_law_asked_k10 K c vs H Q E) : t_law_asked_k10 K c E { nx := fun _ H' => Q .non H', rt := Q } (L2.start N_law_asked_k10 vs) H := by
  obtain ⟨G, x, W, n, rent, R, rfl, gh, ax, t, q, en, kk⟩ := h
  have s0 : Sat K H G H (L2.start N_law_asked_k10 [.ref x]) [.fx (.ref x) (some (hs c.ho W rent R)), .no, .no, .no] := satI (N := N_law_asked_k10) ax .nil
  generalize L2.start N_law_asked_k10 [.ref x] = σ at s0 ⊢
  have f0 : Free [.fx (.ref x) (some (hs c.ho W rent R)), .no, .no, .no] := free_cons free_fx (free_cons free_no (free_cons free_no (free_cons free_no free_nil)))
  have lσ : σ.length = 4 := s0.len
  unfold t_law_asked_k10
  dsimp only [tSeq, tAsg]
  refine meth_run no_deal (i := 0) rfl s0 gh fun y ey ax' => ⟨G, y, W, n, rent, R, rfl, gh, ax', t, q, en, fun G' H1 tt p q' ex ht hp hq _ _ _ pq e1 e2 e3 => ?_⟩
  dsimp only [gName]
  have s1 : Sat K H G H1 (σ.set 1 (some (.ref tt))) [.fx (.ref x) (some (hs c.ho W rent R)), .rf tt, .no, .no] := (s0.free f0).setR (i := 1)
  have gh1 : Same G H1 := gh.trans ex.hh
  refine meth_run no_table (i := 0) rfl s1 gh1 fun z ez ax' => ⟨G, z, W, rent, R, rfl, gh1, ax', by rw [t.len]; have := t.hi; omega, fun Dd qs H2 x2 f2 T2 => ?_⟩
  have fresh : ∀ a ∈ tt :: p :: q' :: Dd :: qs, H a = none := fun a ha => by
    rcases List.mem_cons.mp ha with w | w
    · rw [w]; exact ht
    · rcases List.mem_cons.mp w with w | w
      · rw [w]; exact hp
      · rcases List.mem_cons.mp w with w | w
        · rw [w]; exact hq
        · exact ex.hh.free (f2 a w)
  have P2 : Prd (cut H2 (tt :: p :: q' :: Dd :: qs)) tt p q' (lnI R) (partsOf W R n rent) := ⟨by rw [cut_in (by simp)]; exact x2 _ _ e1, by rw [cut_in (by simp)]; exact x2 _ _ e2, by rw [cut_in (by simp)]; exact x2 _ _ e3, pq⟩
  have T3 : Tbl (cut H2 (tt :: p :: q' :: Dd :: qs)) Dd qs W := ⟨by rw [cut_in (by simp)]; exact T2.hp, T2.len, T2.nd, T2.pn, fun i b hb => by
    rw [cut_in (by have := List.mem_of_getElem? hb; simp [this])]; exact T2.row i b hb⟩
  have gn : Same (cut H2 (tt :: p :: q' :: Dd :: qs)) H2 := cut_same
  have off : ∀ a, H a ≠ none → cut H2 (tt :: p :: q' :: Dd :: qs) a = none := fun a ha => cut_out fun hm => ha (fresh a hm)
  generalize cut H2 (tt :: p :: q' :: Dd :: qs) = Gn at P2 T3 gn off
  have n0 : Sat K H Gn H2 ((σ.set 1 (some (.ref tt))).set 2 (some (.ref Dd))) [.no, .no, .no, .no] := sat_no (by simp [lσ]) fun x hx => by simpa using hx
  have n1 := n0.know (i := 1) (by rw [List.getElem?_set_ne (by decide), List.getElem?_set_self (by rw [lσ]; decide)]) P2.at
  have n2 := n1.know (i := 2) (by rw [List.getElem?_set_self (by rw [List.length_set, lσ]; decide)]) T3.at
  have n2 : Sat K H Gn H2 ((σ.set 1 (some (.ref tt))).set 2 (some (.ref Dd))) [.no, .da (dealD W R n rent), .da (PD.tb W), .no] := by
    have e : dealD W R n rent = .tuple [li (lnI R), li (partsOf W R n rent)] := by unfold dealD; rw [lnI_ln]
    rw [e]; exact n2
  have ev : EvD K (tTup (tCons (tLst (tCons (tVar 1) (tCons (tVar 2) tNil))) (tCons (tLst (tCons (tTup (tCons (tCB (rListV K) (tCons (tOp (rIx K) (tVar 1) (tC (.int 0))) tNil)) (tCons (tCB (rListV K) (tCons (tOp (rIx K) (tVar 1) (tC (.int 1))) tNil)) tNil))) (tCons (tLc (iList K (tVar 2)) (gName 3) tYes (tCB (rListV K) (tCons (tVar 3) tNil)) [3]) tNil))) tNil)))
      [.no, .da (dealD W R n rent), .da (PD.tb W), .no] (askedD W R n rent) :=
    ev_tup (ea_two (EvO.toD (eo_lst (ea_two (ev_var rfl) (ev_var rfl)) (show 2 ≤ 100000 by decide))) (EvO.toD (eo_lst (ea_two (ev_tup (ea_two (EvO.toD (eo_list (ev_ixT (ds := [ln R, li (partsOf W R n rent)]) (ev_var rfl) ev_int rfl))) (EvO.toD (eo_list (ev_ixT (ds := [ln R, li (partsOf W R n rent)]) (ev_var rfl) ev_int rfl)))) (show 2 ≤ 100000 by decide)) (EvO.toD (eo_copy (W := W) (ev_var rfl) (show 3 < 4 by decide) (by rw [t.len]; have := t.hi; omega)))) (show 2 ≤ 100000 by decide)))) (show 2 ≤ 100000 by decide)
  refine ev H Gn H2 _ n2 gn _ fun v G3 H3 x3 a3 => ?_
  have hh : Same H H2 := ex.hh.trans x2
  refine kk v H3 G3 (hh.trans x3.hh) x3.gh (fun a ha => ?_) a3
  cases q : H a with
  | none => rfl
  | some o => exact absurd (x3.fr a (off a (some_ne q)) (some_up hh (some_ne q))) ha
theorem ev_asked (h : Γ[i]? = some (.fx v (some (hs c.ho W rent R)))) (t : Tab W n) (q : Rms R n) (e : (bw W R n).1 = none) : EvD K (tCall (sp_law_asked_k10 K c) [] E (tCons (tVar i) tNil)) Γ (askedD W R n rent) := fun H0 G H σ s gh Q k => by
  obtain ⟨h1, h2⟩ := s.fx i v _ h
  cases h2 _ rfl with
  | of z => cases z
  | ins x1 a1 a2 a3 =>
    refine ⟨_, h1, ?_⟩
    show sp_law_asked_k10 K c ([_] ++ []) H Q E
    rw [List.append_nil]
    refine ⟨G, _, W, n, rent, R, rfl, gh, .ins x1 a1 a2 a3, t, q, e, fun v H' Gn e1 g1 f1 a => ?_⟩
    have dj : Dj Gn G := fun a n => gh.free (f1 a n)
    obtain ⟨l1, l2, l3⟩ := lend_ok (gh.trans e1) (Os := [Gn]) (fun A hA => by rw [List.mem_singleton.mp hA]; exact ⟨g1, dj⟩) (List.pairwise_singleton _ _)
    refine k v _ H' ⟨e1, l1, l2, fun a g n => ?_⟩ (a.up (l3 _ (List.mem_singleton.mpr rfl)))
    show (match Gn a with | some o => some o | none => G a) = none
    cases q : Gn a with
    | none => exact g
    | some o => exact absurd (f1 a (some_ne q)) n
/-! ### _law_held -/
def S_held (c : CA) (h : PyData) (ds : List PyData) (r : Res) : Prop := ∃ (W : List (List Int)) (n : Nat) (rent : Int) (R R0 : List Nat) (i : Nat), h = hs c.ho W rent R ∧ Tab W n ∧ Rms R n ∧ (bw W R n).1 = none ∧ Rms R0 n ∧ ((bw W R0 n).1 = none → R = R0) ∧ i < n ∧
  ds = [PD.tb W, .int rent, ln R0, .int (i : Int)] ∧ r = .ok (.bool true)
abbrev sp_law_held (K : PySem.W.Frag) (c : CA) : Sp := spI K (S_held c)
abbrev t_law_held (K : PySem.W.Frag) (c : CA) (E : XK) : TS :=
  (tSeq (tAsg (tMeth c.ho "deal" (sp_house_deal K c) [] E (tVar 0) tNil) (gName 5))
    (tSeq (tIfS (tOr (tTest (tOp (rNe2 K) (tMeth c.ho "table" (sp_house_table K c) [] E (tVar 0) tNil) (tVar 1))) (tNot (tB (tCall (spOf K (S_law_fair c)) [] E (tCons (tVar 1) (tCons (tVar 5) (tCons (tVar 2) tNil))))))) (tRet (tC (.bl false))) tNext)
    (tSeq (tIfS (tAnd (tTest (tOp rIsN (tCall (spOf K (S_better c)) [] E (tCons (tLc (iList K (tVar 1)) (gName 7) tYes (tCB (rListV K) (tCons (tVar 7) tNil)) [7]) (tCons (tCB (rListV K) (tCons (tVar 3) tNil)) tNil))) (tC .non))) (tTest (tOp (rNe2 K) (tOp (rIx K) (tVar 5) (tC (.int 0))) (tVar 3)))) (tRet (tC (.bl false))) tNext)
    (tSeq (tAsg (tMeth c.ho "bill" (sp_house_bill_k10 K c) [] E (tVar 0) (tCons (tVar 4) tNil)) (gName 6))
    (tSeq (tIfS (tOr (tNot (tB (tCall (spOf K (S_law_whole c)) [] E (tCons (tVar 6) tNil)))) (tTest (tOp (rNe2 K) (tVar 6) (tOp (rIx K) (tOp (rIx K) (tVar 5) (tC (.int 1))) (tOp (rIx K) (tOp (rIx K) (tVar 5) (tC (.int 0))) (tVar 4)))))) (tRet (tC (.bl false))) tNext)
    (tSeq (tDrop (tBM K "list" rAppend (tOp (rIx K) (tVar 5) (tC (.int 0))) (tCons (tC (.int 0)) tNil)))
    (tSeq (tDrop (tBM K "list" rAppend (tOp (rIx K) (tVar 5) (tC (.int 1))) (tCons (tC (.int 0)) tNil)))
    (tSeq (tDrop (tBM K "list" rAppend (tOp (rIx K) (tMeth c.ho "table" (sp_house_table K c) [] E (tVar 0) tNil) (tC (.int 0))) (tCons (tC (.int 0)) tNil)))
    (tSeq (tIfS (tOr (tTest (tOp (rNe2 K) (tMeth c.ho "table" (sp_house_table K c) [] E (tVar 0) tNil) (tVar 1))) (tTest (tOp (rNe2 K) (tCB (rLenV K) (tCons (tOp (rIx K) (tMeth c.ho "deal" (sp_house_deal K c) [] E (tVar 0) tNil) (tC (.int 0))) tNil)) (tCB (rLenV K) (tCons (tVar 1) tNil))))) (tRet (tC (.bl false))) tNext)
    (tRet (tAndV (tOp (rEq2 K) (tCB (rLenV K) (tCons (tOp (rIx K) (tVar 5) (tC (.int 0))) tNil)) (tOp rAdd3 (tCB (rLenV K) (tCons (tVar 1) tNil)) (tC (.int 1)))) (tOp (rEq2 K) (tCB (rLenV K) (tCons (tOp (rIx K) (tVar 5) (tC (.int 1))) tNil)) (tOp rAdd3 (tCB (rLenV K) (tCons (tVar 1) tNil)) (tC (.int 1)))))))))))))))
abbrev N_law_held : List Str := ["_law_house", "_law_table", "_law_rent", "_law_rooms", "_law_bill", "_law_found", "_law_told", "_law_row"]
theorem lenr_law_held (h : sp_law_held K c vs H Q E) : vs.length = 5 := by
  obtain ⟨G, x, vs', h, ds, r, rfl, gh, ax, a, ⟨W, n, rent, R, R0, i, _, _, _, _, _, _, _, rfl, _⟩, _⟩ := h
  have := a.length
  simp at this ⊢
  omega
theorem htr_law_held (F : HK K c.ho) (h : sp_law_held K c vs H Q E) : t_law_held K c E { nx := fun _ H' => Q .non H', rt := Q } (L2.start N_law_held vs) H := by
  obtain ⟨G, x, vs', h, ds, r, rfl, gh, ax, at_, ⟨W, n, rent, R, R0, i, rfl, t, q, en, q0, stay, hi, rfl, rfl⟩, q1, _, _⟩ := h
  have s0 : Sat K H G H (L2.start N_law_held (.ref x :: vs')) [.fx (.ref x) (some (hs c.ho W rent R)), .da (PD.tb W), .da (.int rent), .da (ln R0), .da (.int (i : Int)), .no, .no, .no] := satI (N := N_law_held) ax at_
  have f0 : Free [.fx (.ref x) (some (hs c.ho W rent R)), .da (PD.tb W), .da (.int rent), .da (ln R0), .da (.int (i : Int)), .no, .no, .no] :=
    free_cons free_fx (free_cons free_da (free_cons free_da (free_cons free_da (free_cons free_da (free_cons free_no (free_cons free_no (free_cons free_no free_nil)))))))
  have r0 := rw_start s0 f0 gh (Same.refl H)
  clear s0 f0
  generalize L2.start N_law_held (.ref x :: vs') = σ at r0 ⊢
  have n1 := t.lo
  have n8 := t.hi
  have lW : (W.map li).length = n := by rw [List.length_map, t.len]
  have wz : W.length ≤ 1000 := by rw [t.len]; omega
  show tSeq _ _ _ _ _
  refine raw_seq (r0.asgDeal (c := c) (n := n) (j := 0) r0.lent rfl t q en fun O tt p q' H1 hO r1 => ?_)
  have r1 : Rw K H G G [O] H1 _ [.fx (.ref x) (some (hs c.ho W rent R)), .da (PD.tb W), .da (.int rent), .da (ln R0), .da (.int (i : Int)), .rf tt, .no, .no] := r1
  generalize (σ.set 5 (some (V.ref tt))) = σ1 at r1
  have sl : ∀ {O H' : Hp} {σ' : St} {s6 : Sl} {a b : List Int}, Prd O tt p q' a b → Rw K H G G [O] H' σ' [.fx (.ref x) (some (hs c.ho W rent R)), .da (PD.tb W), .da (.int rent), .da (ln R0), .da (.int (i : Int)), .rf tt, s6, .no] →
      Sat K H (lend G [O]) H' σ' [.fx (.ref x) (some (hs c.ho W rent R)), .da (PD.tb W), .da (.int rent), .da (ln R0), .da (.int (i : Int)), .da (.tuple [li a, li b]), s6, .no] := fun hO r => r.lent.know (i := 5) (r.s.rf 5 tt rfl) (hO.at.up (r.le.2.2 _ (List.mem_singleton.mpr rfl)))
  have eR : li (lnI R) = ln R := lnI_ln R
  -- table, fairness
  refine raw_seq (r1.if_ (b := false) (sl hO r1) (evt_eq (et_or (et_test (ev_neSelf (ev_table rfl wz) (ev_var rfl) (shp_tb W))) fun _ => et_not (et_B (ev_call (d := .bool true) (ea_cons (ev_var rfl) (ea_two (ev_var rfl) (ev_var rfl))) ⟨W, R, n, rent, t, q, en, by rw [eR], rfl⟩))) rfl) (fun z => nomatch z) fun _ H2 e2 => ?_)
  have r2 := r1.grow e2
  try dsimp only
  -- rooms that stay
  refine raw_seq (r2.if_ (b := false) (sl hO r2) (evt_eq (et_and (b := false) (et_test (ev_isN (ev_better t q0 (EvO.toD (eo_copy (W := W) (ev_var rfl) (show 7 < 8 by decide) (by rw [t.len]; omega))) (EvO.toD (eo_list (ev_var rfl)))))) fun hb => et_test ?_) (Bool.and_false _)) (fun z => nomatch z) fun _ H3 e3 => ?_)
  · rw [isNone_ringD] at hb
    have eRR := stay (Option.isNone_iff_eq_none.mp hb)
    subst eRR
    exact ev_neSelf (ev_ixT (ds := [li (lnI R), li (partsOf W R n rent)]) (ev_var rfl) ev_int (by rw [eR]; rfl)) (ev_var rfl) (shp_ln R)
  have r3 := r2.grow e3
  try dsimp only
  -- the bill
  refine raw_seq (r3.asg (sl hO r3) (ev_methI (S := S_bill c) (e := .int ((partsOf W R n rent).getD (R.getD i 0) 0)) (fun _ _ _ _ h => h) no_bill rfl (ea_cons (ev_var rfl) ea_nil) ⟨W, n, rent, R, rfl, t, q, en, .inl ⟨i, hi, rfl, rfl⟩⟩) rfl fun v6 H4 r4 => ?_)
  have r4 : Rw K H G G [O] H4 _ [.fx (.ref x) (some (hs c.ho W rent R)), .da (PD.tb W), .da (.int rent), .da (ln R0), .da (.int (i : Int)), .rf tt, .da (.int ((partsOf W R n rent).getD (R.getD i 0) 0)), .no] := r4
  have pl := partsOf_len (W := W) (R := R) (n := n) (rent := rent)
  have ri := q.at_lt hi
  refine raw_seq (r4.if_ (b := false) (sl hO r4) (evt_eq (et_or (et_not (et_B (ev_wholeL (ev_var rfl)))) fun _ => et_test (ev_neI (ev_var rfl) (ev_at (ns := partsOf W R n rent) (i := R.getD i 0) (ev_ixT (ds := [li (lnI R), li (partsOf W R n rent)]) (ev_var rfl) ev_int rfl) (ev_roomOf q (ev_ixT (ds := [li (lnI R), li (partsOf W R n rent)]) (ev_var rfl) ev_int (by rw [eR]; rfl)) (ev_var rfl) hi) (by rw [pl]; exact ri)))) (by simp [whole])) (fun z => nomatch z) fun _ H5 e5 => ?_)
  have r5 := r4.grow e5
  generalize ((partsOf W R n rent).getD (R.getD i 0) 0) = told at r5
  generalize hps : partsOf W R n rent = ps at hO pl
  generalize (σ1.set 6 (some v6)) = σ2 at r5
  have tp : tt ≠ p := fun z => by have := hO.hp; rw [← z, hO.ht] at this; cases this
  have tq : tt ≠ q' := fun z => by have := hO.hq; rw [← z, hO.ht] at this; cases this
  have ix : ∀ {O H' : Hp} {a b : List Int} {s6 : Sl}, Prd O tt p q' a b → Rw K H G G [O] H' σ2 [.fx (.ref x) (some (hs c.ho W rent R)), .da (PD.tb W), .da (.int rent), .da (ln R0), .da (.int (i : Int)), .rf tt, s6, .no] →
      (∀ Q : VK, Q (.ref p) H' → tOp (rIx K) (tVar 5) (tC (.int 0)) σ2 H' Q) ∧ (∀ Q : VK, Q (.ref q') H' → tOp (rIx K) (tVar 5) (tC (.int 1)) σ2 H' Q) := fun hO r => by
    have oh := (r.pc _ (List.mem_singleton.mpr rfl)).1
    exact ⟨fun Q k => ⟨_, r.s.rf 5 tt rfl, .inr (.inl ⟨tt, _, 0, _, rfl, rfl, SqT.of (oh _ _ hO.ht), rfl, k⟩)⟩, fun Q k => ⟨_, r.s.rf 5 tt rfl, .inr (.inl ⟨tt, _, 1, _, rfl, rfl, SqT.of (oh _ _ hO.ht), rfl, k⟩)⟩⟩
  try dsimp only
  -- what is answered is the caller's own
  refine raw_seq (app_fr (F := fun v _ => v = .int 0) (r5.pc O (List.mem_singleton.mpr rfl)).1 hO.hp (by rw [List.length_map, List.length_map, q.len]; omega) (ix hO r5).1 (fun Q k => k _ _ (Same.refl _) rfl) fun v H6 e6 ev F6 => ?_)
  subst ev
  have r6 := (r5.grow e6).fr F6
  have hO6 : Prd (upd O p (.lst ((lnI R).map V.int ++ [.int 0]))) tt p q' (lnI R ++ [0]) ps := ⟨by rw [upd_ne tp]; exact hO.ht, by rw [upd_same, List.map_append]; rfl, by rw [upd_ne hO.pq.symm]; exact hO.hq, hO.pq⟩
  generalize upd O p (.lst ((lnI R).map V.int ++ [.int 0])) = O6 at r6 hO6
  try dsimp only
  refine raw_seq (app_fr (F := fun v _ => v = .int 0) (r6.pc O6 (List.mem_singleton.mpr rfl)).1 hO6.hq (by rw [List.length_map, pl]; omega) (ix hO6 r6).2 (fun Q k => k _ _ (Same.refl _) rfl) fun v H7 e7 ev F7 => ?_)
  subst ev
  have r7 := (r6.grow e7).fr F7
  have hO7 : Prd (upd O6 q' (.lst (ps.map V.int ++ [.int 0]))) tt p q' (lnI R ++ [0]) (ps ++ [0]) := ⟨by rw [upd_ne tq]; exact hO6.ht, by rw [upd_ne hO.pq]; exact hO6.hp, by rw [upd_same, List.map_append]; rfl, hO.pq⟩
  generalize upd O6 q' (.lst (ps.map V.int ++ [.int 0])) = O7 at r7 hO7
  try dsimp only
  refine raw_seq (app_new (fun Q k => ?_) fun H8 e8 => ?_)
  · refine meth_run no_table (i := 0) rfl r7.lent r7.le.2.1 fun y _ ax' => ⟨_, y, W, rent, R, rfl, r7.le.2.1, ax', wz, fun Dd qs H' e f T => ?_⟩
    have lq : 0 < qs.length := by rw [T.len, t.len]; omega
    have h0 : qs[0]? = some qs[0] := List.getElem?_eq_getElem lq
    refine .inl ⟨Dd, qs.map V.ref, 0, .ref qs[0], rfl, rfl, SqL.of T.hp, ?_, ?_⟩
    · exact atI_of (by omega) (by rw [List.getElem?_map]; show Option.map V.ref (qs[0]?) = _; rw [h0]; rfl)
    · exact k _ H' _ e (f _ (List.mem_cons_of_mem _ (List.getElem_mem lq))) (T.row 0 _ h0) (by rw [List.length_map, t.row_len (by omega)]; omega)
  have r8 := r7.grow e8
  try dsimp only
  refine raw_seq (r8.if_ (b := false) (sl hO7 r8) (evt_eq (et_or (et_test (ev_neSelf (ev_table rfl wz) (ev_var rfl) (shp_tb W))) fun _ => et_test (ev_neI (ev_lenL (EvO.toD (ev_deal0 rfl t q en))) (ev_lenL (ev_var rfl)))) (by rw [List.length_map, q.len, lW]; simp)) (fun z => nomatch z) fun _ H9 e9 => ?_)
  have r9 := r8.grow e9
  try dsimp only
  refine r9.ret (sl hO7 r9) (d := .bool true) (evd_eq (ev_and (ev_eqI (ev_lenL (ev_ixT (ds := [li (lnI R ++ [0]), li (ps ++ [0])]) (ev_var rfl) ev_int rfl)) (ev_add (ev_lenL (ev_var rfl)) ev_int)) fun _ => ev_eqI (ev_lenL (ev_ixT (ds := [li (lnI R ++ [0]), li (ps ++ [0])]) (ev_var rfl) ev_int rfl)) (ev_add (ev_lenL (ev_var rfl)) ev_int)) ?_) rfl fun w H10 st a => q1 _ rfl w G H10 ⟨st.hh, Same.refl G, st.gh, fun _ g _ => g⟩ a
  rw [lW]
  simp [q.len, pl]
end
end PD

set_option Elab.async false
set_option linter.all false
set_option maxRecDepth 100000
set_option maxHeartbeats 1000000
namespace PD
open PySem L2
/-- a list of data in a piece -/
def Lst (K : PySem.W.Frag) (G O : Hp) (p : Addr) (ds : List PyData) : Prop := ∃ vs, O p = some (.lst vs) ∧ AtAll K G vs ds
abbrev twice (X : PyData) : PyData := .tuple [X, X]
section
variable {K : PySem.W.Frag} {c : CA} {E : XK} {H0 Gs G H H' O : Hp} {Os Os' : List Hp} {σ : St} {Γ Γ2 : Env} {D : Ends} {i j : Nat} {ta : TA} {te tb tl : TE} {ds : List PyData} {W : List (List Int)} {R R' : List Nat} {n k : Nat} {rent : Int} {v : V} {r : Res} {vs : List V} {Q : VK}
theorem Rw.perm (r : Rw K H0 Gs G Os H σ Γ) (p : Os.Perm Os') : Rw K H0 Gs G Os' H σ Γ :=
  ⟨r.s, r.f, r.st, fun O h => r.pc O (p.mem_iff.mpr h), (List.Perm.pairwise_iff (fun {x y} h => Dj.symm h) p).mp r.dj⟩
theorem Rw.knowX {d : PyData} (r : Rw K H0 Gs G Os H σ Γ) (hi : σ[i]? = some (some v)) (h : AtX K G v d) : Rw K H0 Gs G Os H σ (Γ.set i (.fx v (some d))) := ⟨r.s.knowX hi h, r.f.set free_fx, r.st, r.pc, r.dj⟩
/-- over what is known for good -/
theorem Rw.asgG {d : PyData} (r : Rw K H0 Gs G Os H σ Γ) (h : EvD K te Γ d) (k : ∀ v G' H', Rw K H0 Gs G' Os H' (σ.set i (some v)) (Γ.set i (.da d)) → D.nx (σ.set i (some v)) H') : tAsg te (gName i) D σ H :=
  h H0 G H σ r.s r.gh _ fun v G' H' e a => k v G' H' ((r.ext e).setD a)
theorem Rw.asgCopy (r : Rw K H0 Gs G Os H σ Γ) (s2 : Sat K H0 (lend G Os) H σ Γ2) (h : EvD K tl Γ2 (PD.tb W)) (hz : W.length ≤ 1000) (hj : j < Γ2.length)
    (kk : ∀ O p qs H', Tbl O p qs W → Rw K H0 Gs G (O :: Os) H' (σ.set i (some (.ref p))) (Γ.set i (.rf p)) → D.nx (σ.set i (some (.ref p))) H') : tAsg (tLc (iList K tl) (gName j) tYes (tCB (rListV K) (tCons (tVar j) tNil)) [j]) (gName i) D σ H := by
  refine tbl_new (j := j) W li id s2 r.le.2.1 h hz (fun y _ => eo_list (ev_var (by rw [List.getElem?_set_self (by simp [wipeE]; exact hj)]; rfl))) _ fun D qs H' e f T => ?_
  rw [List.map_id] at T
  exact kk _ D qs H' T.cut ((r.new (fr_cut e f)).setR)
theorem Rw.asgL (r : Rw K H0 Gs G Os H σ Γ) (kk : ∀ O p H', O p = some (.lst []) → Rw K H0 Gs G (O :: Os) H' (σ.set i (some (.ref p))) (Γ.set i (.rf p)) → D.nx (σ.set i (some (.ref p))) H') : tAsg (tLst tNil) (gName i) D σ H := by
  have e : EvO K (tLst tNil) Γ [] := eo_lst ea_nil (by simp)
  refine e H0 G H σ r.s r.gh _ fun p vs G' H' x hp gp hp' a => ?_
  cases a
  exact kk (cut H' [p]) p H' (by rw [cut_in (by simp)]; exact hp') ((r.new (fr_cut x.hh fun a ha => by rw [List.mem_singleton.mp ha]; exact hp)).setR)
/-- for j in a new list of ints -/
theorem Rw.forL {ns : List Int} {t : TS} (r : Rw K H0 Gs G Os H σ Γ) (s2 : Sat K H0 (lend G Os) H σ Γ2) (h : EvO K te Γ2 (ns.map .int)) (J : Addr → Nat → St → Hp → Prop)
    (h0 : ∀ a G' H', G' a = some (.lst (ns.map .int)) → Rw K H0 Gs G' Os H' σ Γ → J a 0 σ H') (hk : ∀ a i σ' H', J a i σ' H' → H' a = some (.lst (ns.map .int)))
    (hs : ∀ a i x σ' H', ns[i]? = some x → J a i σ' H' → t { D with nx := J a (i + 1), ct := J a (i + 1), bk := D.nx } (σ'.set j (some (.int x))) H') (hd : ∀ a σ' H', J a ns.length σ' H' → D.nx σ' H') : tFor (iList K te) (gName j) t D σ H :=
  r.own s2 h fun p H' e hp hp' => by
    have gp : G p = none := r.gh.free hp
    obtain ⟨l1, l2, l3⟩ := lend_at (K := K) (r.gh.trans e) gp hp'
    have ex : Ext G H (upd G p (.lst (ns.map .int))) H' := ⟨e, l1, l2, fun a g n => by
      have z : a ≠ p := fun z => n (by rw [z]; exact hp)
      rw [upd_ne z]; exact g⟩
    refine ⟨p, rfl, ⟨_, SqL.of hp'⟩, for_list (xs := ns.map V.int) (J p) (h0 p _ H' upd_same (r.ext ex)) (fun i σ' H2 _ pq => SqL.of (hk p i σ' H2 pq)) (fun i v σ' H2 hi pq => ?_) (fun σ' H2 pq => ?_)⟩
    · rw [List.getElem?_map] at hi
      obtain ⟨x, hx, rfl⟩ := Option.map_eq_some_iff.mp hi
      exact hs p i x σ' H2 hx pq
    · rw [List.length_map] at pq
      exact hd p σ' H2 pq
/-- the test's rest, where a method answered None -/
theorem non_rest {t u : TS} (h : u D σ H) : rNotN .non .non H fun z H3 => ∃ b, z = .bl b ∧ if b = true then t D σ H3 else u D σ H3 := ⟨rfl, false, by simp, by simpa using h⟩
theorem cutI_len (ns : List Int) (lo hi : Option Int) : (cutI ns lo hi).length ≤ ns.length := by
  unfold cutI
  rw [List.length_take, List.length_drop]
  omega
/-! ### _law_table_by, its rows own -/
abbrev S_tb10 (ds : List PyData) (n : Nat) : Prop := ∃ ns : List Int, ds = [scr ns, .int (n : Int)] ∧ ns.length ≤ 63 ∧ 1 ≤ n ∧ n ≤ 8
def sp_law_table_by (K : PySem.W.Frag) (c : CA) : Sp := spTab K S_tb10
theorem lenr_law_table_by (h : sp_law_table_by K c vs H Q E) : vs.length = 2 := by
  obtain ⟨G, ds, n, gh, a, ⟨ns, rfl, _⟩, _⟩ := h
  exact a.length
theorem htr_law_table_by (h : sp_law_table_by K c vs H Q E) : t_law_table_by K c E { nx := fun _ H' => Q .non H', rt := Q } (L2.start N_law_table_by vs) H := by
  obtain ⟨G, ds, n, gh, a, ⟨ns, rfl, hn, n1, n8⟩, kk⟩ := h
  have s0 : Sat K H G H (L2.start N_law_table_by vs) [.da (scr ns), .da (.int (n : Int)), .no, .no, .no, .no] := sat_start (N := N_law_table_by) a
  generalize L2.start N_law_table_by vs = σ at s0 ⊢
  have fr : ∀ s2 s3 s4 : Sl, ((∀ ds, s2 ≠ .ow ds) ∧ ∀ ks, s2 ≠ .od ks) → ((∀ ds, s3 ≠ .ow ds) ∧ ∀ ks, s3 ≠ .od ks) → ((∀ ds, s4 ≠ .ow ds) ∧ ∀ ks, s4 ≠ .od ks) →
      Free [.da (scr ns), .da (.int (n : Int)), s2, s3, s4, .no] := fun s2 s3 s4 h2 h3 h4 => free_cons free_da (free_cons free_da (free_cons h2 (free_cons h3 (free_cons h4 (free_cons free_no free_nil)))))
  have r0 := rw_start s0 (fr _ _ _ free_no free_no free_no) gh (Same.refl H)
  refine raw_seq (r0.asg (i := 2) r0.lent (ev_mod (ev_ce (k := 1) (ev_var rfl) ev_int hn) ev_int (by decide)) rfl fun v2 H1 r1 => ?_)
  have r1 : Rw K H G G [] H1 _ [.da (scr ns), .da (.int (n : Int)), .da (.int (ce ns 1 % 4)), .no, .no, .no] := r1
  generalize ce ns 1 % 4 = m at r1
  generalize (σ.set 2 (some v2)) = σ1 at r1
  have e1 := r1.st.hh
  have el : EvO K (tLst tNil) [.da (scr ns), .da (.int (n : Int)), .da (.int m), .no, .no, .no] [] := eo_lst ea_nil (by simp)
  refine raw_seq (raw_asgO (i := 3) el r1.s r1.gh fun p vs0 G2 H2 x2 hp gp hp2 av _ => ?_)
  cases av
  have e2 : Same H H2 := e1.trans x2.hh
  have s2 : Sat K H G H2 (σ1.set 3 (some (.ref p))) [.da (scr ns), .da (.int (n : Int)), .da (.int m), .rf p, .no, .no] := (r1.s.free r1.f).setR (i := 3)
  have T0 : Tbl H2 p [] [] := ⟨hp2, rfl, List.nodup_nil, List.not_mem_nil, fun i q h => by simp at h⟩
  have hp0 : H p = none := e1.free hp
  refine raw_seq (raw_forR (n := (n : Int)) (ea_cons (ev_var rfl) ea_nil) (by omega) s2 (gh.trans e2) (fun i σ' H' => ∃ s4 qs W, ((∀ ds, s4 ≠ .ow ds) ∧ ∀ ks, s4 ≠ .od ks) ∧ Sat K H G H' σ' [.da (scr ns), .da (.int (n : Int)), .da (.int m), .rf p, s4, .no] ∧ Same H H' ∧
    (∀ a ∈ p :: qs, H a = none) ∧ Tbl H' p qs W ∧ W.length = i ∧ (∀ r ∈ W, r.length = n ∧ ∀ x ∈ r, 0 ≤ x ∧ x ≤ 1000000)) (fun H3 e3 => ⟨.no, [], [], free_no, s2.free (fr _ _ _ free_da free_fx free_no), e2.trans e3, fun a ha => by rw [List.mem_singleton.mp ha]; exact hp0, T0.up e3, rfl, fun r hr => nomatch hr⟩) (fun i σ' H' hi pq => ?_) (fun σ' H' pq => ?_))
  · obtain ⟨s4, qs, W, h4, s', e', fs, T, lw, hw⟩ := pq
    have hi : i < n := by omega
    have si : Sat K H G H' (σ'.set 4 (some (.int (i : Int)))) [.da (scr ns), .da (.int (n : Int)), .da (.int m), .rf p, .da (.int (i : Int)), .no] := s'.setD (i := 4) (.int (i : Int))
    have fi := fr (.da (.int m)) (.rf p) (.da (.int (i : Int))) free_da free_fx free_da
    generalize σ'.set 4 (some (.int (i : Int))) = σ2 at si
    have row : EvO K (tLc (iRng1 (tCons (tVar 1) tNil)) (gName 5) tYes (tCall (spOf K (S_law_coins_by c)) [] E0 (tCons (tCall (spOf K (S_law_cell_at c)) [] E0 (tCons (tVar 0) (tCons (tOp rAdd3 (tC (.int 3)) (tOp rModI (tOp rAdd3 (tOp rMul2 (tVar 1) (tVar 4)) (tVar 5)) (tC (.int 60)))) tNil))) (tCons (tVar 2) tNil))) [5])
        [.da (scr ns), .da (.int (n : Int)), .da (.int m), .rf p, .da (.int (i : Int)), .no] (((List.range n).map fun k => coinsBy (ce ns (3 + (n * i + k) % 60)) m).map .int) := by
      refine evo_eq (eo_mapR (j := 5) (n := (n : Int)) (fun k => .int (coinsBy (ce ns (3 + (n * i + k) % 60)) m)) (ea_cons (ev_var rfl) ea_nil) (by omega) fun k hk => ?_) (by rw [List.map_map, Int.toNat_natCast]; rfl)
      exact ev_call (ea_cons (ev_ce (k := 3 + (n * i + k) % 60) (ev_var rfl) (evd_eq (ev_add ev_int (ev_mod (ev_add (ev_mul (ev_var rfl) (ev_var rfl) (.inl (by omega))) (ev_var rfl)) ev_int (by decide))) (congrArg PyData.int (by push_cast; rfl))) hn) (ea_cons (ev_var rfl) ea_nil)) ⟨_, _, rfl, rfl⟩
    refine tbl_app (F := fun a => H a = none) (row := (List.range n).map fun k => coinsBy (ce ns (3 + (n * i + k) % 60)) m) (si.rf 3 p rfl) T (by rw [T.len, lw]; omega) (fun Q k => row H G H' σ2 si (gh.trans e') Q fun b us G3 H3 x3 hb gb hb3 ab => ?_) fun b' H4 e4 fb nb' T4 => ?_
    · have eu := ab.ints
      subst eu
      refine k b H3 x3.hh (e'.free hb) (fun z => ?_) hb3
      have : H' b ≠ none := by
        rcases List.mem_cons.mp z with z | z
        · rw [z, T.hp]; exact fun w => nomatch w
        · obtain ⟨k, hk⟩ := List.getElem?_of_mem z
          rw [T.row k b hk]; exact fun w => nomatch w
      exact this hb
    have e34 : Same H H4 := e'.trans e4
    refine ⟨_, qs ++ [b'], W ++ [(List.range n).map fun k => coinsBy (ce ns (3 + (n * i + k) % 60)) m], free_da, si.free fi, fun a o z => ?_, fun a ha => ?_, T4, by rw [List.length_append, lw]; rfl, fun r hr => ?_⟩
    · have ap : a ≠ p := fun y => by rw [y, hp0] at z; cases z
      rw [upd_ne ap]; exact e34 _ _ z
    · rcases List.mem_cons.mp ha with z | z
      · rw [z]; exact hp0
      · rcases List.mem_append.mp z with z | z
        · exact fs a (List.mem_cons_of_mem _ z)
        · rw [List.mem_singleton.mp z]; exact fb
    · rcases List.mem_append.mp hr with z | z
      · exact hw r z
      · rw [List.mem_singleton.mp z]
        refine ⟨by simp, fun x hx => ?_⟩
        obtain ⟨k, _, rfl⟩ := List.mem_map.mp hx
        exact coinsBy_ok _ _
  · obtain ⟨s4, qs, W, h4, s', e', fs, T, lw, hw⟩ := pq
    refine ⟨_, s'.rf 3 p rfl, ?_⟩
    exact kk W p qs H' ⟨by rw [lw]; omega, n1, n8, fun r hr => (hw r hr).1, fun r hr => (hw r hr).2⟩ e' fs T
end
/-- where nothing is better, nothing moves -/
theorem setN_stay {W : List (List Int)} {n k : Nat} {R R' : List Nat} (h : SetN W n k R R') (e : (bw W R n).1 = none) : R' = R := by
  cases k with
  | zero => exact h.2.symm
  | succ k =>
    obtain ⟨r, e', _⟩ := h
    rw [e] at e'; cases e'
section
variable {K : PySem.W.Frag} {c : CA} {E : XK} {ds : List PyData} {r : Res}
def S_law_k10 (c : CA) (ds : List PyData) (r : Res) : Prop := ∃ ns : List Int, ds = [scr ns] ∧ ns.length ≤ 63 ∧ r = .ok (.bool true)
abbrev t_law_k10 (K : PySem.W.Frag) (c : CA) (E : XK) : TS :=
  (tSeq (tAsg (tOp rAdd3 (tC (.int 1)) (tOp rModI (tCall (spOf K (S_law_cell_at c)) [] E (tCons (tVar 0) (tCons (tC (.int 0)) tNil))) (tC (.int 4)))) (gName 1))
    (tSeq (tIfS (tTest (tOp (rEq2 K) (tOp rModI (tOp rDivI (tCall (spOf K (S_law_cell_at c)) [] E (tCons (tVar 0) (tCons (tC (.int 0)) tNil))) (tC (.int 4))) (tC (.int 8))) (tC (.int 1)))) (tAsg (tOp rAdd3 (tVar 1) (tC (.int 4))) (gName 1)) tNext)
    (tSeq (tAsg (tCall (sp_law_table_by K c) [] E (tCons (tVar 0) (tCons (tVar 1) tNil))) (gName 2))
    (tSeq (tAsg (tOp rModI (tCall (spOf K (S_law_cell_at c)) [] E (tCons (tVar 0) (tCons (tC (.int 2)) tNil))) (tC (.int 1000000001))) (gName 3))
    (tSeq (tAsg (tLc (iList K (tVar 2)) (gName 12) tYes (tCB (rListV K) (tCons (tVar 12) tNil)) [12]) (gName 4))
    (tSeq (tAsg (tMake c.ho (sp_house_init K c) [] E (tCons (tVar 4) (tCons (tVar 3) tNil))) (gName 5))
    (tSeq (tAsg (tMake c.ho (sp_house_init K c) [] E (tCons (tLc (iList K (tVar 2)) (gName 12) tYes (tCB (rListV K) (tCons (tVar 12) tNil)) [12]) (tCons (tVar 3) tNil))) (gName 6))
    (tSeq (tAsg (tOp (rIx K) (tCall (sp_law_asked_k10 K c) [] E (tCons (tVar 6) tNil)) (tC (.int 1))) (gName 7))
    (tSeq (tAsg (tUn (rU fun i => .int (-i)) (tC (.int 1))) (gSub (tOp (rIx K) (tVar 4) (tC (.int 0))) (tC (.int 0)) rSetL))
    (tSeq (tDrop (tBM K "list" rAppend (tVar 4) (tCons (tLst tNil) tNil)))
    (tSeq (tAsg (tLst tNil) (gName 8))
    (tSeq (tFor (iList K (tCall (spOf K (S_law_deeds c)) [] E (tCons (tVar 0) (tCons (tVar 1) tNil)))) (gName 9) (tSeq (tDrop (tBM K "list" rAppend (tVar 8) (tCons (tCall (sp_law_asked_k10 K c) [] E (tCons (tVar 5) tNil)) tNil)))
    (tSeq (tIfS (tTest (tOp (rEq2 K) (tOp rModI (tVar 9) (tC (.int 5))) (tC (.int 4)))) (tIfS (tNot (tB (tCall (sp_law_refused_k10 K c) [] E (tCons (tVar 5) (tCons (tOp rModI (tOp rDivI (tVar 9) (tC (.int 5))) (tC (.int 6))) (tCons (tOp rDivI (tVar 9) (tC (.int 5))) tNil)))))) (tRet (tC (.bl false))) tNext) (tIfS (tTest (tOp (rEq2 K) (tOp rModI (tVar 9) (tC (.int 5))) (tC (.int 3)))) (tSeq (tAsg (tOp rModI (tOp rDivI (tVar 9) (tC (.int 5))) (tC (.int 1000000001))) (gName 3))
    (tIfS (tTest (tOp rNotN (tMeth c.ho "charge" (sp_house_charge_k10 K c) [] E (tVar 5) (tCons (tVar 3) tNil)) (tC .non))) (tRet (tC (.bl false))) tNext)) (tSeq (tAsg (tOp rModI (tOp rDivI (tVar 9) (tC (.int 5))) (tVar 1)) (gName 10))
    (tSeq (tAsg (tOp rModI (tOp rDivI (tVar 9) (tC (.int 40))) (tVar 1)) (gName 11))
    (tSeq (tAsg (tCall (spOf K (S_law_coins_by c)) [] E (tCons (tOp rDivI (tVar 9) (tC (.int 320))) (tCons (tOp rAdd3 (tOp rModI (tVar 9) (tC (.int 5))) (tOp rMul2 (tC (.int 2)) (tCB rInt1V (tCons (tOp (rEq2 K) (tOp rModI (tVar 9) (tC (.int 5))) (tC (.int 2))) tNil)))) tNil))) (gSub (tOp (rIx K) (tVar 2) (tVar 10)) (tVar 11) rSetL))
    (tIfS (tTest (tOp rNotN (tMeth c.ho "wish" (sp_house_wish_k10 K c) [] E (tVar 5) (tCons (tVar 10) (tCons (tVar 11) (tCons (tOp (rIx K) (tOp (rIx K) (tVar 2) (tVar 10)) (tVar 11)) tNil)))) (tC .non))) (tRet (tC (.bl false))) tNext))))))
    (tIfS (tNot (tB (tCall (sp_law_held K c) [] E (tCons (tVar 5) (tCons (tVar 2) (tCons (tVar 3) (tCons (tOp (rIx K) (tOp (rIx K) (tOp (rIx K) (tOp (rIx K) (tVar 8) (tUn (rU fun i => .int (-i)) (tC (.int 1)))) (tC (.int 1))) (tC (.int 0))) (tC (.int 0))) (tCons (tOp rModI (tOp rDivI (tVar 9) (tC (.int 5))) (tVar 1)) tNil)))))))) (tRet (tC (.bl false))) tNext))))
    (tRet (tAndV (tOp (rEq2 K) (tOp (rIx K) (tCall (sp_law_asked_k10 K c) [] E (tCons (tVar 6) tNil)) (tC (.int 1))) (tVar 7)) (tCB (rAll K) (tCons (tLc (iList K (tVar 8)) (gTup K 2 (gCons (gName 13) (gCons (gName 14) gNil))) tYes (tOp (rEq2 K) (tVar 13) (tVar 14)) [13, 14]) tNil))))))))))))))))
abbrev N_law_k10 : List Str := ["_law_script", "_law_many", "_law_table", "_law_rent", "_law_handed", "_law_house", "_law_beside", "_law_left", "_law_held_here", "_law_cell", "_law_one", "_law_room", "_law_row", "_law_told", "_law_kept"]
theorem ht_law_k10 (F : HK K c.ho) (h : S_law_k10 c ds r) : HT K E (t_law_k10 K c E) (env0 N_law_k10 ds) (Post r) := by
  obtain ⟨ns, rfl, hn, rfl⟩ := h
  show HT K E _ [.da (scr ns), .no, .no, .no, .no, .no, .no, .no, .no, .no, .no, .no, .no, .no, .no] _
  refine ht_seq (ht_asg (ev_add ev_int (ev_mod (ev_ce (k := 0) (ev_var rfl) ev_int hn) ev_int (by decide))) ?_)
  refine ht_seq (ht_imp (P := fun o => ∃ n : Nat, 1 ≤ n ∧ n ≤ 8 ∧ o = .nx [.da (scr ns), .da (.int (n : Int)), .no, .no, .no, .no, .no, .no, .no, .no, .no, .no, .no, .no, .no]) (ht_if (et_test (ev_eqI (ev_mod (ev_div (ev_ce (k := 0) (ev_var rfl) ev_int hn) ev_int ⟨by decide, by decide⟩) ev_int (by decide)) ev_int)) (fun h => ?_) (fun h => ?_)) ?_)
  · refine ht_asg (ev_add (ev_var rfl) ev_int) ⟨(1 + ce ns 0 % 4 + 4).toNat, by omega, by omega, ?_⟩
    rw [Int.toNat_of_nonneg (by omega)]; rfl
  · refine ht_next ⟨(1 + ce ns 0 % 4).toNat, by omega, by omega, ?_⟩
    rw [Int.toNat_of_nonneg (by omega)]; rfl
  rintro _ ⟨n, n1, n8, rfl⟩
  show HT K E _ [.da (scr ns), .da (.int (n : Int)), .no, .no, .no, .no, .no, .no, .no, .no, .no, .no, .no, .no, .no] _
  intro H0 G H σ D s gh h0 m
  have f : Free [.da (scr ns), .da (.int (n : Int)), .no, .no, .no, .no, .no, .no, .no, .no, .no, .no, .no, .no, .no] :=
    free_cons free_da (free_cons free_da (free_cons free_no (free_cons free_no (free_cons free_no (free_cons free_no (free_cons free_no (free_cons free_no (free_cons free_no (free_cons free_no (free_cons free_no (free_cons free_no (free_cons free_no (free_cons free_no (free_cons free_no free_nil))))))))))))))
  have r0 := rw_start s f gh h0
  clear s f gh h0
  -- the table, the rent, what is handed in
  refine raw_seq (r0.asgTab r0.lent (ea_two (ev_var rfl) (ev_var rfl)) ⟨ns, rfl, hn, n1, n8⟩ fun W T pt qs H1 t hT r1 => ?_)
  have r1 : Rw K H0 G G [T] H1 _ [.da (scr ns), .da (.int (n : Int)), .rf pt, .no, .no, .no, .no, .no, .no, .no, .no, .no, .no, .no, .no] := r1
  generalize hrent : ce ns 2 % 1000000001 = rent
  have rr : 0 ≤ rent ∧ rent ≤ 1000000000 := by omega
  try dsimp only
  refine raw_seq (r1.asg (i := 3) (d := .int rent) r1.lent (evd_eq (ev_mod (ev_ce (k := 2) (ev_var rfl) ev_int hn) ev_int (by decide)) (congrArg PyData.int hrent)) rfl fun v3 H2 r2 => ?_)
  have r2 : Rw K H0 G G [T] H2 _ [.da (scr ns), .da (.int (n : Int)), .rf pt, .da (.int rent), .no, .no, .no, .no, .no, .no, .no, .no, .no, .no, .no] := r2
  have wz : W.length ≤ 1000 := by rw [t.len]; omega
  have sT2 := r2.lent.know (i := 2) (r2.s.rf 2 pt rfl) (hT.at.up (r2.le.2.2 T (by simp)))
  try dsimp only
  refine raw_seq (r2.asgCopy (j := 12) (tl := tVar 2) sT2 (ev_var rfl) wz (show 12 < 15 by decide) fun B4 p4 qs4 H3 hB r3 => ?_)
  have r3 : Rw K H0 G G [B4, T] H3 _ [.da (scr ns), .da (.int (n : Int)), .rf pt, .da (.int rent), .rf p4, .no, .no, .no, .no, .no, .no, .no, .no, .no, .no] := r3
  -- the houses
  obtain ⟨k0, R0, hs0⟩ := best_ex t
  have q0 := setN_rms hs0 (rms_range n)
  have en0 := setN_end hs0
  have sB3 := r3.lent.know (i := 4) (r3.s.rf 4 p4 rfl) (hB.at.up (r3.le.2.2 B4 (by simp)))
  try dsimp only
  refine raw_seq (r3.asgMake (c := c) (i := 5) (n := n) sB3 (ea_two (ev_var rfl) (ev_var rfl)) t rr.1 rr.2 hs0 fun A x H4 hA r4 => ?_)
  have r4 : Rw K H0 G G [A, B4, T] H4 _ [.da (scr ns), .da (.int (n : Int)), .rf pt, .da (.int rent), .rf p4, .rf x, .no, .no, .no, .no, .no, .no, .no, .no, .no] := r4
  have sT4 := r4.lent.know (i := 2) (r4.s.rf 2 pt rfl) (hT.at.up (r4.le.2.2 T (by simp)))
  try dsimp only
  refine raw_seq (r4.asgMake (c := c) (i := 6) (n := n) sT4 (ea_two (EvO.toD (eo_copy (W := W) (ev_var rfl) (show 12 < 15 by decide) (by rw [t.len]; omega))) (ev_var rfl)) t rr.1 rr.2 hs0 fun B x6 H5 hBe r5 => ?_)
  have hBG : AtX K (lend G [B]) (.ref x6) (hs c.ho W rent R0) := by
    have := lend_ok r5.gh (Os := [B]) (fun A' hA' => by rw [List.mem_singleton.mp hA']; exact ⟨(r5.pc B (by simp)).1, (r5.pc B (by simp)).2.1⟩) (List.pairwise_singleton _ _)
    exact hBe.at.up (this.2.2 B (by simp))
  have r6 := r5.frz.knowX (i := 6) (r5.s.rf 6 x6 rfl) hBG
  generalize lend G [B] = G6 at r6
  have r6 : Rw K H0 G G6 [A, B4, T] H5 _ [.da (scr ns), .da (.int (n : Int)), .rf pt, .da (.int rent), .rf p4, .rf x, .fx (.ref x6) (some (hs c.ho W rent R0)), .no, .no, .no, .no, .no, .no, .no, .no] := r6
  clear hBG hBe r5 sT4 sB3 sT2
  -- what the second one tells
  try dsimp only
  refine raw_seq (r6.asgG (i := 7) (d := copyD W R0 n rent) (ev_ixT (ds := [copyD W R0 n rent, copyD W R0 n rent]) (ev_asked rfl t q0 en0) ev_int rfl) fun v7 G7 H7 r7 => ?_)
  have r7 : Rw K H0 G G7 [A, B4, T] H7 _ [.da (scr ns), .da (.int (n : Int)), .rf pt, .da (.int rent), .rf p4, .rf x, .fx (.ref x6) (some (hs c.ho W rent R0)), .da (copyD W R0 n rent), .no, .no, .no, .no, .no, .no, .no] := r7
  have r7s := r7.swap
  -- what was handed in is changed
  try dsimp only
  have oB := r7s.pc B4 (by simp)
  refine raw_seq (tbl_set (tb := tVar 4) (i := 0) (k := 0) (x := -1) r7s.s r7s.f r7s.gh oB.1 (.inl oB.2.1) hB (fun H8 Q e k => ⟨_, r7s.s.rf 4 p4 rfl, k⟩) (ev_neg ev_int) ev_int ev_int (by rw [t.len]; omega) (by rw [t.row_len (by omega)]; omega) fun a8 H8 _ F8 T8 => ?_)
  have r8 := r7s.fr F8
  generalize upd B4 a8 (.lst (((W.getD 0 []).set 0 (-1)).map V.int)) = B8 at r8 T8
  clear F8
  try dsimp only
  refine raw_seq (app_fr (F := fun _ _ => True) (r8.pc B8 (by simp)).1 T8.hp (by rw [List.length_map, T8.len]; unfold set2; rw [List.length_set, t.len]; omega) (fun Q k => ⟨_, r8.s.rf 4 p4 rfl, k⟩) (fun Q k => (show EvO K (tLst tNil) [.da (scr ns), .da (.int (n : Int)), .rf pt, .da (.int rent), .rf p4, .rf x, .fx (.ref x6) (some (hs c.ho W rent R0)), .da (copyD W R0 n rent), .no, .no, .no, .no, .no, .no, .no] [] from eo_lst ea_nil (by simp)) H0 _ H8 _ r8.s r8.gh Q fun p vs G' H' e _ _ _ _ => k _ _ e.hh trivial) fun v9 H9 e9 _ F9 => ?_)
  have r9 := ((r8.grow e9).fr F9).drop
  clear F9 T8 r8 r7s r7 r6 r4 r3 r2 r1 r0
  generalize upd H9 p4 _ = H10 at r9
  -- what is told
  try dsimp only
  refine raw_seq (r9.asgL (i := 8) fun Ls pl H11 hL r11 => ?_)
  have r11 : Rw K H0 G G7 [Ls, A, T] H11 _ [.da (scr ns), .da (.int (n : Int)), .rf pt, .da (.int rent), .rf p4, .rf x, .fx (.ref x6) (some (hs c.ho W rent R0)), .da (copyD W R0 n rent), .rf pl, .no, .no, .no, .no, .no, .no] := r11
  -- the deeds
  have lcs : (deedsOf ns n).length ≤ 63 := Nat.le_trans (cutI_len _ _ _) hn
  generalize hcs : deedsOf ns n = cs at lcs
  let GI : List Int → Int → Sl → Sl → Sl → Env := fun _ rent s9 s10 s11 => []
  try dsimp only
  refine raw_seq (r11.forL (ns := cs) r11.lent (evo_eq (eo_call (ea_two (ev_var rfl) (ev_var rfl)) ⟨ns, n, rfl, hn, rfl⟩) (by rw [hcs]))
    (fun a i σ' H' => ∃ G' L' A' T' W' R' rent' Xs s9 s10 s11, G' a = some (.lst (cs.map .int)) ∧ Rw K H0 G G' [L', A', T'] H' σ' [.da (scr ns), .da (.int (n : Int)), .rf pt, .da (.int rent'), .rf p4, .rf x, .fx (.ref x6) (some (hs c.ho W rent R0)), .da (copyD W R0 n rent), .rf pl, s9, s10, s11, .no, .no, .no] ∧
      Lst K G' L' pl (Xs.map twice) ∧ (∀ X ∈ Xs, Shp 3 X) ∧ Xs.length = i ∧ Hse c.ho A' x W' rent' R' ∧ Tbl T' pt qs W' ∧ Tab W' n ∧ Rms R' n ∧ (bw W' R' n).1 = none ∧ 0 ≤ rent' ∧ rent' ≤ 1000000000)
    (fun a G' H' ga r => ⟨G', Ls, A, T, W, R0, rent, [], _, _, _, ga, r, ⟨[], hL, .nil⟩, fun X hX => (nomatch hX), rfl, hA, hT, t, q0, en0, rr.1, rr.2⟩)
    (fun a i σ' H' ⟨G', L', A', T', W', R', rent', Xs, s9, s10, s11, ga, r, _⟩ => r.gh _ _ ga) (fun a i y σ' H' hy pq => ?_) (fun a σ' H' pq => ?_))
  · obtain ⟨G1, L1, A1, T1, W1, R1, rent1, Xs, s9, s10, s11, ga, r, ⟨lv, hl1, hl2⟩, hX, lX, hA1, hT1, t1, q1, en1, rr1, rr2⟩ := pq
    have hi : i < 63 := by have := (List.getElem?_eq_some_iff.mp hy).1; omega
    have r := r.setD (i := 9) (v := .int y) (.int y)
    have r : Rw K H0 G G1 [L1, A1, T1] H' _ [.da (scr ns), .da (.int (n : Int)), .rf pt, .da (.int rent1), .rf p4, .rf x, .fx (.ref x6) (some (hs c.ho W rent R0)), .da (copyD W R0 n rent), .rf pl, .da (.int y), s10, s11, .no, .no, .no] := r
    generalize (σ'.set 9 (some (V.int y))) = σ2 at r
    clear r11 r9 hA hT hL hB
    -- what the house tells ahead of the deed
    refine raw_seq (app_fr (F := fun v H1 => ∃ Gn, Same Gn H1 ∧ (∀ a, Gn a ≠ none → H' a = none) ∧ At K Gn v (askedD W1 R1 n rent1)) (r.pc L1 (by simp)).1 hl1 (by rw [hl2.length, List.length_map, lX]; omega) (fun Q k => ⟨_, r.s.rf 8 pl rfl, k⟩) (fun Q k => ?_) fun v H1 e1 hF F1 => ?_)
    · refine ⟨_, r.s.rf 5 x rfl, ?_⟩
      show sp_law_asked_k10 K c ([_] ++ []) _ Q E
      rw [List.append_nil]
      exact ⟨_, x, W1, n, rent1, R1, rfl, r.le.2.1, hA1.at.up (r.le.2.2 A1 (by simp)), t1, q1, en1, fun v H1 Gn e g f a => k v H1 e ⟨Gn, g, f, a⟩⟩
    obtain ⟨Gn, gn, fn, an⟩ := hF
    have rN : Rw K H0 G G1 [Gn, L1, A1, T1] H1 σ2 _ := r.new ⟨gn, fun a o q _ => e1 a o q, fun a w => .inr (fn a w)⟩
    have lo := lend_ok rN.gh (Os := [Gn]) (fun A' hA' => by rw [List.mem_singleton.mp hA']; exact ⟨(rN.pc Gn (by simp)).1, (rN.pc Gn (by simp)).2.1⟩) (List.pairwise_singleton _ _)
    have r2 := rN.frz.fr F1
    have hl2' : AtAll K (lend G1 [Gn]) (lv ++ [v]) ((Xs ++ [copyD W1 R1 n rent1]).map twice) := by
      rw [List.map_append]
      exact (hl2.up lo.1).snoc (an.up (lo.2.2 Gn (by simp)))
    have ga' : lend G1 [Gn] a = some (.lst (cs.map .int)) := lo.1 _ _ ga
    generalize lend G1 [Gn] = G2 at r2 hl2' ga'
    have hL2 : Lst K G2 (upd L1 pl (.lst (lv ++ [v]))) pl ((Xs ++ [copyD W1 R1 n rent1]).map twice) := ⟨_, upd_same, hl2'⟩
    generalize upd L1 pl (.lst (lv ++ [v])) = L2 at r2 hL2
    generalize upd H1 pl (.lst (lv ++ [v])) = H2 at r2
    clear rN lo F1 an fn gn r hl2' hl1 hl2
    have r2 : Rw K H0 G G2 [L2, A1, T1] H2 σ2 [.da (scr ns), .da (.int (n : Int)), .rf pt, .da (.int rent1), .rf p4, .rf x, .fx (.ref x6) (some (hs c.ho W rent R0)), .da (copyD W R0 n rent), .rf pl, .da (.int y), s10, s11, .no, .no, .no] := r2
    -- the state with all lent
    have sl : ∀ {H' : Hp} {σ' : St} {L' A' T' : Hp} {W' W'' : List (List Int)} {R' : List Nat} {rent' rent'' : Int} {s10 s11 : Sl} {ls : List PyData}, Lst K G2 L' pl ls → Hse c.ho A' x W' rent' R' → Tbl T' pt qs W'' →
        Rw K H0 G G2 [L', A', T'] H' σ' [.da (scr ns), .da (.int (n : Int)), .rf pt, .da (.int rent''), .rf p4, .rf x, .fx (.ref x6) (some (hs c.ho W rent R0)), .da (copyD W R0 n rent), .rf pl, .da (.int y), s10, s11, .no, .no, .no] →
        Sat K H0 (lend G2 [L', A', T']) H' σ' [.da (scr ns), .da (.int (n : Int)), .da (PD.tb W''), .da (.int rent''), .rf p4, .fx (.ref x) (some (hs c.ho W' rent' R')), .fx (.ref x6) (some (hs c.ho W rent R0)), .da (copyD W R0 n rent), .da (.list ls), .da (.int y), s10, s11, .no, .no, .no] := fun {H' σ' L' A' T' W' W'' R' rent' rent'' s10 s11 ls} hl ha hT r => by
      obtain ⟨lv, e1, e2⟩ := hl
      have z1 := r.lent.know (i := 2) (r.s.rf 2 pt rfl) (hT.at.up (r.le.2.2 T' (by simp)))
      have z2 := z1.know (i := 8) (r.s.rf 8 pl rfl) (.lst (r.le.2.2 L' (by simp) _ _ e1) (e2.up r.le.1))
      exact z2.knowX (i := 5) (r.s.rf 5 x rfl) (ha.at.up (r.le.2.2 A' (by simp)))
    try dsimp only
    refine raw_part (fun σ' H' => ∃ A' T' W' R' rent' s10 s11, Rw K H0 G G2 [L2, A', T'] H' σ' [.da (scr ns), .da (.int (n : Int)), .rf pt, .da (.int rent'), .rf p4, .rf x, .fx (.ref x6) (some (hs c.ho W rent R0)), .da (copyD W R0 n rent), .rf pl, .da (.int y), s10, s11, .no, .no, .no] ∧
      Hse c.ho A' x W' rent' R' ∧ Tbl T' pt qs W' ∧ Tab W' n ∧ Rms R' n ∧ (bw W' R' n).1 = none ∧ 0 ≤ rent' ∧ rent' ≤ 1000000000 ∧ ((bw W' R1 n).1 = none → R' = R1)) (fun D' hD' hD => ?_) ?_
    · refine r2.if_ (b := decide (y % 5 = 4)) (sl hL2 hA1 hT1 r2) (et_test (ev_eqI (ev_mod (ev_var rfl) ev_int (by decide)) ev_int)) (fun h4 H3 e3 => ?_) (fun h4 H3 e3 => ?_)
      · -- refused
        have r3 := r2.grow e3
        refine r3.if_ (b := false) (sl hL2 hA1 hT1 r3) (evt_eq (et_not (et_B (ev_callI (S := S_refused c) (e := .bool true) rfl (ea_two (evd_eq (ev_mod (ev_div (ev_var rfl) ev_int ⟨by decide, by decide⟩) ev_int (by decide)) (congrArg PyData.int (show _ = (((y / 5 % 6).toNat : Nat) : Int) by omega))) (ev_div (ev_var rfl) ev_int ⟨by decide, by decide⟩)) ⟨W1, n, rent1, R1, (y / 5 % 6).toNat, y / 5, rfl, t1, q1, en1, by omega, rfl, rfl⟩))) rfl) (fun z => nomatch z) fun _ H4 e4 => ?_
        exact hD _ _ ⟨A1, T1, W1, R1, rent1, _, _, r3.grow e4, hA1, hT1, t1, q1, en1, rr1, rr2, fun _ => rfl⟩
      have r3 := r2.grow e3
      refine r3.if_ (b := decide (y % 5 = 3)) (sl hL2 hA1 hT1 r3) (et_test (ev_eqI (ev_mod (ev_var rfl) ev_int (by decide)) ev_int)) (fun h3 H4 e4 => ?_) (fun h3 H4 e4 => ?_)
      · -- a rent
        have r4 := r3.grow e4
        have rv : 0 ≤ y / 5 % 1000000001 ∧ y / 5 % 1000000001 ≤ 1000000000 := by omega
        refine raw_seq (r4.asg (i := 3) (d := .int (y / 5 % 1000000001)) r4.lent (ev_mod (ev_div (ev_var rfl) ev_int ⟨by decide, by decide⟩) ev_int (by decide)) rfl fun v3 H5 r5 => ?_)
        have r5 : Rw K H0 G G2 [L2, A1, T1] H5 _ [.da (scr ns), .da (.int (n : Int)), .rf pt, .da (.int (y / 5 % 1000000001)), .rf p4, .rf x, .fx (.ref x6) (some (hs c.ho W rent R0)), .da (copyD W R0 n rent), .rf pl, .da (.int y), s10, s11, .no, .no, .no] := r5
        have s5 := sl hL2 hA1 hT1 r5
        have le5 : lend G2 [L2, A1, T1] = lend G2 [A1, L2, T1] := by
          funext a
          show (match L2 a with | some o => some o | none => match A1 a with | some o => some o | none => lend G2 [T1] a) = (match A1 a with | some o => some o | none => match L2 a with | some o => some o | none => lend G2 [T1] a)
          have dj := (List.pairwise_cons.mp r5.dj).1 A1 (by simp)
          cases ha : L2 a with
          | none => rfl
          | some o => rw [dj a (some_ne ha)]
        rw [le5] at s5
        dsimp only [tIfS, tTest, tOp]
        refine r5.swap.chargeE (ta := tCons (tVar 3) tNil) (j := 5) s5 rfl hA1 (ea_cons (ev_var rfl) ea_nil) rv.1 rv.2 fun A2 H6 hA2 r6 => ?_
        exact non_rest (t := tRet (tC (.bl false))) (u := tNext) (hD _ _ ⟨A2, T1, W1, R1, _, _, _, r6.swap, hA2, hT1, t1, q1, en1, rv.1, rv.2, fun _ => rfl⟩)
      · -- a wish
        have r4 := r3.grow e4
        have a1 := Int.emod_nonneg (y / 5) (b := (n : Int)) (by omega)
        have a2 := Int.emod_lt_of_pos (y / 5) (b := (n : Int)) (by omega)
        have b1 := Int.emod_nonneg (y / 40) (b := (n : Int)) (by omega)
        have b2 := Int.emod_lt_of_pos (y / 40) (b := (n : Int)) (by omega)
        have ek : y / 5 % (n : Int) = ((y / 5 % (n : Int)).toNat : Int) := by omega
        have ej : y / 40 % (n : Int) = ((y / 40 % (n : Int)).toNat : Int) := by omega
        have hk : (y / 5 % (n : Int)).toNat < n := by omega
        have hj : (y / 40 % (n : Int)).toNat < n := by omega
        generalize (y / 5 % (n : Int)).toNat = ik at ek hk
        generalize (y / 40 % (n : Int)).toNat = ij at ej hj
        refine raw_seq (r4.asg (i := 10) (d := .int (ik : Int)) r4.lent (evd_eq (ev_mod (ev_div (ev_var rfl) ev_int ⟨by decide, by decide⟩) (ev_var rfl) (by omega)) (congrArg PyData.int ek)) rfl fun v10 H5 r5 => ?_)
        refine raw_seq (r5.asg (i := 11) (d := .int (ij : Int)) r5.lent (evd_eq (ev_mod (ev_div (ev_var rfl) ev_int ⟨by decide, by decide⟩) (ev_var rfl) (by omega)) (congrArg PyData.int ej)) rfl fun v11 H6 r6 => ?_)
        have r6 : Rw K H0 G G2 [L2, A1, T1] H6 _ [.da (scr ns), .da (.int (n : Int)), .rf pt, .da (.int rent1), .rf p4, .rf x, .fx (.ref x6) (some (hs c.ho W rent R0)), .da (copyD W R0 n rent), .rf pl, .da (.int y), .da (.int (ik : Int)), .da (.int (ij : Int)), .no, .no, .no] := r6
        generalize ((σ2.set 10 (some v10)).set 11 (some v11)) = σ3 at r6
        have ev : EvD K (tCall (spOf K (S_law_coins_by c)) [] E (tCons (tOp rDivI (tVar 9) (tC (.int 320))) (tCons (tOp rAdd3 (tOp rModI (tVar 9) (tC (.int 5))) (tOp rMul2 (tC (.int 2)) (tCB rInt1V (tCons (tOp (rEq2 K) (tOp rModI (tVar 9) (tC (.int 5))) (tC (.int 2))) tNil)))) tNil)))
            [.da (scr ns), .da (.int (n : Int)), .rf pt, .da (.int rent1), .rf p4, .rf x, .fx (.ref x6) (some (hs c.ho W rent R0)), .da (copyD W R0 n rent), .rf pl, .da (.int y), .da (.int (ik : Int)), .da (.int (ij : Int)), .no, .no, .no] (.int (coinsBy (y / 320) (y % 5 + 2 * (if decide (y % 5 = 2) = true then 1 else 0)))) :=
          ev_call (ea_two (ev_div (ev_var rfl) ev_int ⟨by decide, by decide⟩) (ev_add (ev_mod (ev_var rfl) ev_int (by decide)) (ev_mul ev_int (ev_intB (ev_eqI (ev_mod (ev_var rfl) ev_int (by decide)) ev_int)) (.inl (by decide))))) ⟨_, _, rfl, rfl⟩
        have hv := coinsBy_ok (y / 320) (y % 5 + 2 * (if decide (y % 5 = 2) = true then 1 else 0))
        generalize coinsBy (y / 320) (y % 5 + 2 * (if decide (y % 5 = 2) = true then 1 else 0)) = vv at ev hv
        have rp := r6.perm (Os' := [T1, L2, A1]) (((List.Perm.swap T1 A1 []).cons L2).trans (List.Perm.swap T1 L2 [A1]))
        have oT := rp.pc T1 (by simp)
        have t2 := tab_set2 (k := ij) t1 hk hv
        try dsimp only
        refine raw_seq (tbl_set (tb := tVar 2) (i := ik) (k := ij) (x := vv) rp.s rp.f rp.gh oT.1 (.inl oT.2.1) hT1 (fun H8 Q e k => ⟨_, rp.s.rf 2 pt rfl, k⟩) ev (ev_var rfl) (ev_var rfl) (by rw [t1.len]; exact hk) (by rw [t1.row_len hk]; exact hj) fun a8 H7 _ F7 T7 => ?_)
        have r7 := rp.fr F7
        generalize upd T1 a8 (.lst (((W1.getD ik []).set ij vv).map V.int)) = T2 at r7 T7
        have r7 := r7.perm (Os' := [L2, A1, T2]) ((List.Perm.swap L2 T2 [A1]).trans ((List.Perm.swap A1 T2 []).cons L2))
        obtain ⟨k6, R6, hs6⟩ := settles_ex t2 q1
        have q6 := setN_rms hs6 q1
        have s7 := sl hL2 hA1 T7 r7
        have le7 : lend G2 [L2, A1, T2] = lend G2 [A1, L2, T2] := by
          funext a
          show (match L2 a with | some o => some o | none => match A1 a with | some o => some o | none => lend G2 [T2] a) = (match A1 a with | some o => some o | none => match L2 a with | some o => some o | none => lend G2 [T2] a)
          have dj := (List.pairwise_cons.mp r7.dj).1 A1 (by simp)
          cases ha : L2 a with
          | none => rfl
          | some o => rw [dj a (some_ne ha)]
        rw [le7] at s7
        have ecell : cell (set2 W1 ik ij vv) ik ij = vv := by
          have hi := hk
          unfold cell set2
          rw [List.getD_eq_getElem?_getD (l := W1.set _ _), List.getElem?_set_self (by rw [t1.len]; exact hk)]
          show ((W1.getD ik []).set ij vv).getD ij 0 = vv
          rw [List.getD_eq_getElem?_getD, List.getElem?_set_self (by rw [t1.row_len hk]; exact hj)]; rfl
        dsimp only [tIfS, tTest, tOp]
        refine r7.swap.wishE (ta := tCons (tVar 10) (tCons (tVar 11) (tCons (tOp (rIx K) (tOp (rIx K) (tVar 2) (tVar 10)) (tVar 11)) tNil))) (j := 5) s7 rfl hA1 t1 q1 (ea_cons (ev_var rfl) (ea_two (ev_var rfl) (evd_eq (ev_cell t2 (ev_var rfl) (ev_var rfl) (ev_var rfl) hk hj) (congrArg PyData.int ecell)))) hk hj hv.1 hv.2 hs6 fun A2 H8 hA2 r8 => ?_
        exact non_rest (t := tRet (tC (.bl false))) (u := tNext) (hD _ _ ⟨A2, T2, _, R6, rent1, _, _, r8.swap, hA2, T7, t2, q6, setN_end hs6, rr1, rr2, fun e => setN_stay hs6 e⟩)
    · -- behind the deed
      rintro σ3 H3 ⟨A2, T2, W2, R2, rent2, s10', s11', r3, hA2, hT2, t2, q2, en2, rr3, rr4, stay⟩
      have ll : (((Xs ++ [copyD W1 R1 n rent1]).map twice)).length = i + 1 := by simp [lX]
      have last : atI ((Xs ++ [copyD W1 R1 n rent1]).map twice) (-1) = some (twice (copyD W1 R1 n rent1)) := by
        unfold atI ixN
        rw [if_neg (by decide), if_pos (by rw [ll]; omega)]
        show ((Xs ++ [copyD W1 R1 n rent1]).map twice)[((-1 : Int) + _).toNat]? = _
        rw [ll, show ((-1 : Int) + ((i + 1 : Nat) : Int)).toNat = i by omega, List.map_append, List.getElem?_append_right (by rw [List.length_map, lX]; exact Nat.le_refl _), List.length_map, lX, Nat.sub_self]
        rfl
      have b1 := Int.emod_nonneg (y / 5) (b := (n : Int)) (by omega)
      have b2 := Int.emod_lt_of_pos (y / 5) (b := (n : Int)) (by omega)
      refine r3.if_ (b := false) (sl hL2 hA2 hT2 r3) (evt_eq (et_not (et_B (ev_callI (S := S_held c) (e := .bool true) rfl (ea_cons (ev_var rfl) (ea_cons (ev_var rfl) (ea_two
          (ev_ixT (ds := [ln R1, li (partsOf W1 R1 n rent1)]) (ev_ixL (ds := [dealD W1 R1 n rent1, PD.tb W1]) (ev_ixT (ds := [copyD W1 R1 n rent1, copyD W1 R1 n rent1]) (ev_ixL (ev_var rfl) (ev_neg ev_int) last) ev_int rfl) ev_int rfl) ev_int rfl)
          (evd_eq (ev_mod (ev_div (ev_var rfl) ev_int ⟨by decide, by decide⟩) (ev_var rfl) (by omega)) (congrArg PyData.int (show _ = (((y / 5 % (n : Int)).toNat : Nat) : Int) by omega))))))
          ⟨W2, n, rent2, R2, R1, (y / 5 % (n : Int)).toNat, rfl, t2, q2, en2, q1, stay, by omega, rfl, rfl⟩))) rfl) (fun z => nomatch z) fun _ H4 e4 => ?_
      refine ⟨G2, L2, A2, T2, W2, R2, rent2, Xs ++ [copyD W1 R1 n rent1], _, _, _, ga', r3.grow e4, hL2, fun X hX' => ?_, by simp [lX], hA2, hT2, t2, q2, en2, rr3, rr4⟩
      rcases List.mem_append.mp hX' with z | z
      · exact hX X z
      · rw [List.mem_singleton.mp z]; exact shp_copyD
  · -- the end
    obtain ⟨G1, L1, A1, T1, W1, R1, rent1, Xs, s9, s10, s11, ga, r, ⟨lv, hl1, hl2⟩, hX, lX, _⟩ := pq
    have s1 := r.lent.know (i := 8) (r.s.rf 8 pl rfl) (.lst (r.le.2.2 L1 (by simp) _ _ hl1) (hl2.up r.le.1))
    refine r.ret s1 (d := .bool true) (evd_eq (ev_and (b := true) (ev_eqSelf (ev_ixT (ds := [copyD W R0 n rent, copyD W R0 n rent]) (ev_asked rfl t q0 en0) ev_int rfl) (ev_var rfl) shp_copyD) fun _ => evd_eq (ev_all (bs := (Xs.filter fun _ => true).map fun _ => true) (evd_eq (EvO.toD (eo_lcL (g := gTup K 2 (gCons (gName 13) (gCons (gName 14) gNil))) (vs := [13, 14]) (tt := tYes) Xs twice (fun _ => true) (fun _ => .bool true) (fun X => ((wipeE _ [13, 14]).set 13 (.da X)).set 14 (.da X)) (ev_var rfl) (by rw [lX]; omega) (fun X _ => tg_tup2) (fun X _ => et_yes) fun X hX' _ => ev_eqSelf (ev_var rfl) (ev_var rfl) (hX X hX'))) (by rw [List.map_map]; rfl))) (by simp)) rfl) rfl fun w H9 st a => m.rt (.bool true) w _ H9 rfl st a
end
end PD

set_option Elab.async false
set_option linter.all false
set_option maxRecDepth 100000
set_option maxHeartbeats 4000000
namespace D
open PySem L2 PD
def topS (i : Nat) : Stmt := PySem.Challenge.pw_roomshare_k10_whole_house.main.body.getD i (.Pass ⟨0, 0, 0, 0⟩)
theorem hu65 {A : Around} {k : Nat} (r : Room k A) : A.units + 65 < cLine := by have := r.un; omega
abbrev s_law_cell_at : Stmt := topS 36
theorem sc_law_cell_at : FnScope N_law_cell_at ["_law_script", "_law_k"] (defScope s_law_cell_at) := ⟨rfl, rfl, rfl, by decide +kernel, rfl, by decide +kernel, by decide +kernel⟩
abbrev s_law_coins_by : Stmt := topS 37
theorem sc_law_coins_by : FnScope N_law_coins_by ["_law_cell", "_law_mode"] (defScope s_law_coins_by) := ⟨rfl, rfl, rfl, by decide +kernel, rfl, by decide +kernel, by decide +kernel⟩
abbrev s_law_table_by : Stmt := topS 38
theorem sc_law_table_by : FnScope N_law_table_by ["_law_script", "_law_many"] (defScope s_law_table_by) := ⟨rfl, rfl, rfl, by decide +kernel, rfl, by decide +kernel, by decide +kernel⟩
abbrev s_is_whole : Stmt := topS 10
theorem sc_is_whole : FnScope N_is_whole ["thing"] (defScope s_is_whole) := ⟨rfl, rfl, rfl, by decide +kernel, rfl, by decide +kernel, by decide +kernel⟩
abbrev s_is_row : Stmt := topS 11
theorem sc_is_row : FnScope N_is_row ["row", "many"] (defScope s_is_row) := ⟨rfl, rfl, rfl, by decide +kernel, rfl, by decide +kernel, by decide +kernel⟩
abbrev s_need_table : Stmt := topS 12
theorem sc_need_table : FnScope N_need_table ["wishes"] (defScope s_need_table) := ⟨rfl, rfl, rfl, by decide +kernel, rfl, by decide +kernel, by decide +kernel⟩
abbrev s_need_rent : Stmt := topS 31
theorem sc_need_rent : FnScope N_need_rent ["rent"] (defScope s_need_rent) := ⟨rfl, rfl, rfl, by decide +kernel, rfl, by decide +kernel, by decide +kernel⟩
abbrev s_are_places : Stmt := topS 13
theorem sc_are_places : FnScope N_are_places ["things", "many"] (defScope s_are_places) := ⟨rfl, rfl, rfl, by decide +kernel, rfl, by decide +kernel, by decide +kernel⟩
abbrev s_need_rooms : Stmt := topS 15
theorem sc_need_rooms : FnScope N_need_rooms ["wishes", "rooms"] (defScope s_need_rooms) := ⟨rfl, rfl, rfl, by decide +kernel, rfl, by decide +kernel, by decide +kernel⟩
abbrev s_step : Stmt := topS 16
theorem sc_step : FnScope N_step ["wishes", "rooms", "one", "other"] (defScope s_step) := ⟨rfl, rfl, rfl, by decide +kernel, rfl, by decide +kernel, by decide +kernel⟩
abbrev s_first_ways : Stmt := topS 19
theorem sc_first_ways : FnScope N_first_ways ["wishes", "rooms"] (defScope s_first_ways) := ⟨rfl, rfl, rfl, by decide +kernel, rfl, by decide +kernel, by decide +kernel⟩
abbrev s_longer_row : Stmt := topS 20
theorem sc_longer_row : FnScope N_longer_row ["wishes", "rooms", "row"] (defScope s_longer_row) := ⟨rfl, rfl, rfl, by decide +kernel, rfl, by decide +kernel, by decide +kernel⟩
abbrev s_longer : Stmt := topS 21
theorem sc_longer : FnScope N_longer ["wishes", "rooms", "ways"] (defScope s_longer) := ⟨rfl, rfl, rfl, by decide +kernel, rfl, by decide +kernel, by decide +kernel⟩
abbrev s_ring_in : Stmt := topS 22
theorem sc_ring_in : FnScope N_ring_in ["ways"] (defScope s_ring_in) := ⟨rfl, rfl, rfl, by decide +kernel, rfl, by decide +kernel, by decide +kernel⟩
abbrev s_best_ways : Stmt := topS 23
theorem sc_best_ways : FnScope N_best_ways ["wishes", "rooms"] (defScope s_best_ways) := ⟨rfl, rfl, rfl, by decide +kernel, rfl, by decide +kernel, by decide +kernel⟩
abbrev s_turned : Stmt := topS 18
theorem sc_turned : FnScope N_turned ["rooms", "ring"] (defScope s_turned) := ⟨rfl, rfl, rfl, by decide +kernel, rfl, by decide +kernel, by decide +kernel⟩
abbrev s_settled : Stmt := topS 25
theorem sc_settled : FnScope N_settled ["wishes", "rooms"] (defScope s_settled) := ⟨rfl, rfl, rfl, by decide +kernel, rfl, by decide +kernel, by decide +kernel⟩
abbrev s_best : Stmt := topS 26
theorem sc_best : FnScope N_best ["wishes"] (defScope s_best) := ⟨rfl, rfl, rfl, by decide +kernel, rfl, by decide +kernel, by decide +kernel⟩
abbrev s_house_init : Stmt := inClass (topS 34) 0
theorem sc_house_init : FnScope N_house_init ["self", "wishes", "rent"] (defScope s_house_init) := ⟨rfl, rfl, rfl, by decide +kernel, rfl, by decide +kernel, by decide +kernel⟩
abbrev s_law_deeds : Stmt := topS 46
theorem sc_law_deeds : FnScope N_law_deeds ["_law_script", "_law_many"] (defScope s_law_deeds) := ⟨rfl, rfl, rfl, by decide +kernel, rfl, by decide +kernel, by decide +kernel⟩
abbrev s_need_ways : Stmt := topS 28
theorem sc_need_ways : FnScope N_need_ways ["wishes", "rooms"] (defScope s_need_ways) := ⟨rfl, rfl, rfl, by decide +kernel, rfl, by decide +kernel, by decide +kernel⟩
abbrev s_price_of : Stmt := topS 29
theorem sc_price_of : FnScope N_price_of ["ways", "other"] (defScope s_price_of) := ⟨rfl, rfl, rfl, by decide +kernel, rfl, by decide +kernel, by decide +kernel⟩
abbrev s_prices : Stmt := topS 30
theorem sc_prices : FnScope N_prices ["wishes", "rooms"] (defScope s_prices) := ⟨rfl, rfl, rfl, by decide +kernel, rfl, by decide +kernel, by decide +kernel⟩
abbrev s_parts_of : Stmt := topS 32
theorem sc_parts_of : FnScope N_parts_of ["wishes", "rooms", "rent"] (defScope s_parts_of) := ⟨rfl, rfl, rfl, by decide +kernel, rfl, by decide +kernel, by decide +kernel⟩
abbrev s_house_deal : Stmt := inClass (topS 34) 3
theorem sc_house_deal : FnScope N_house_deal ["self"] (defScope s_house_deal) := ⟨rfl, rfl, rfl, by decide +kernel, rfl, by decide +kernel, by decide +kernel⟩
abbrev s_house_table : Stmt := inClass (topS 34) 5
theorem sc_house_table : FnScope N_house_table ["self"] (defScope s_house_table) := ⟨rfl, rfl, rfl, by decide +kernel, rfl, by decide +kernel, by decide +kernel⟩
abbrev s_law_asked_k10 : Stmt := topS 45
theorem sc_law_asked_k10 : FnScope N_law_asked_k10 ["_law_house"] (defScope s_law_asked_k10) := ⟨rfl, rfl, rfl, by decide +kernel, rfl, by decide +kernel, by decide +kernel⟩
abbrev s_need_place : Stmt := topS 14
theorem sc_need_place : FnScope N_need_place ["thing", "many"] (defScope s_need_place) := ⟨rfl, rfl, rfl, by decide +kernel, rfl, by decide +kernel, by decide +kernel⟩
abbrev s_house_bill_k10 : Stmt := inClass (topS 34) 4
theorem sc_house_bill_k10 : FnScope N_house_bill_k10 ["self", "lodger"] (defScope s_house_bill_k10) := ⟨rfl, rfl, rfl, by decide +kernel, rfl, by decide +kernel, by decide +kernel⟩
abbrev s_law_whole : Stmt := topS 40
theorem sc_law_whole : FnScope N_law_whole ["_law_found"] (defScope s_law_whole) := ⟨rfl, rfl, rfl, by decide +kernel, rfl, by decide +kernel, by decide +kernel⟩
abbrev s_law_places : Stmt := topS 41
theorem sc_law_places : FnScope N_law_places ["_law_row", "_law_many", "_law_size"] (defScope s_law_places) := ⟨rfl, rfl, rfl, by decide +kernel, rfl, by decide +kernel, by decide +kernel⟩
abbrev s_law_fair : Stmt := topS 42
theorem sc_law_fair : FnScope N_law_fair ["_law_table", "_law_found", "_law_rent"] (defScope s_law_fair) := ⟨rfl, rfl, rfl, by decide +kernel, rfl, by decide +kernel, by decide +kernel⟩
abbrev s_better : Stmt := topS 24
theorem sc_better : FnScope N_better ["wishes", "rooms"] (defScope s_better) := ⟨rfl, rfl, rfl, by decide +kernel, rfl, by decide +kernel, by decide +kernel⟩
abbrev s_law_held : Stmt := topS 44
theorem sc_law_held : FnScope N_law_held ["_law_house", "_law_table", "_law_rent", "_law_rooms", "_law_bill"] (defScope s_law_held) := ⟨rfl, rfl, rfl, by decide +kernel, rfl, by decide +kernel, by decide +kernel⟩
abbrev s_house_wish_k10 : Stmt := inClass (topS 34) 1
theorem sc_house_wish_k10 : FnScope N_house_wish_k10 ["self", "lodger", "room", "coins"] (defScope s_house_wish_k10) := ⟨rfl, rfl, rfl, by decide +kernel, rfl, by decide +kernel, by decide +kernel⟩
abbrev s_house_charge_k10 : Stmt := inClass (topS 34) 2
theorem sc_house_charge_k10 : FnScope N_house_charge_k10 ["self", "rent"] (defScope s_house_charge_k10) := ⟨rfl, rfl, rfl, by decide +kernel, rfl, by decide +kernel, by decide +kernel⟩
abbrev s_law_refused_k10 : Stmt := topS 43
theorem sc_law_refused_k10 : FnScope N_law_refused_k10 ["_law_house", "_law_deed", "_law_kind"] (defScope s_law_refused_k10) := ⟨rfl, rfl, rfl, by decide +kernel, rfl, by decide +kernel, by decide +kernel⟩
abbrev s_law_k10 : Stmt := topS 47
theorem sc_law_k10 : FnScope N_law_k10 ["_law_script"] (defScope s_law_k10) := ⟨rfl, rfl, rfl, by decide +kernel, rfl, by decide +kernel, by decide +kernel⟩
theorem len_law_cell_at {c : CA} {ds : List PyData} {r : Res} (h : S_law_cell_at c ds r) : ds.length = 2 := by
  simp only [S_law_cell_at, S_ahead] at h; grind (ematch := 30) (gen := 30)
theorem len_law_coins_by {c : CA} {ds : List PyData} {r : Res} (h : S_law_coins_by c ds r) : ds.length = 2 := by
  simp only [S_law_coins_by, S_ahead] at h; grind (ematch := 30) (gen := 30)
theorem len_is_whole {c : CA} {ds : List PyData} {r : Res} (h : S_is_whole c ds r) : ds.length = 1 := by
  simp only [S_is_whole, S_ahead] at h; grind (ematch := 30) (gen := 30)
theorem len_is_row {c : CA} {ds : List PyData} {r : Res} (h : S_is_row c ds r) : ds.length = 2 := by
  simp only [S_is_row, S_ahead] at h; grind (ematch := 30) (gen := 30)
theorem len_need_table {c : CA} {ds : List PyData} {r : Res} (h : S_need_table c ds r) : ds.length = 1 := by
  simp only [S_need_table, S_ahead] at h; grind (ematch := 30) (gen := 30)
theorem len_need_rent {c : CA} {ds : List PyData} {r : Res} (h : S_need_rent c ds r) : ds.length = 1 := by
  simp only [S_need_rent, S_ahead] at h; grind (ematch := 30) (gen := 30)
theorem len_are_places {c : CA} {ds : List PyData} {r : Res} (h : S_are_places c ds r) : ds.length = 2 := by
  simp only [S_are_places, S_ahead] at h; grind (ematch := 30) (gen := 30)
theorem len_need_rooms {c : CA} {ds : List PyData} {r : Res} (h : S_need_rooms c ds r) : ds.length = 2 := by
  simp only [S_need_rooms, S_ahead] at h; grind (ematch := 30) (gen := 30)
theorem len_step {c : CA} {ds : List PyData} {r : Res} (h : S_step c ds r) : ds.length = 4 := by
  simp only [S_step, S_ahead] at h; grind (ematch := 30) (gen := 30)
theorem len_first_ways {c : CA} {ds : List PyData} {r : Res} (h : S_first_ways c ds r) : ds.length = 2 := by
  simp only [S_first_ways, S_ahead] at h; grind (ematch := 30) (gen := 30)
theorem len_longer_row {c : CA} {ds : List PyData} {r : Res} (h : S_longer_row c ds r) : ds.length = 3 := by
  simp only [S_longer_row, S_ahead] at h; grind (ematch := 30) (gen := 30)
theorem len_longer {c : CA} {ds : List PyData} {r : Res} (h : S_longer c ds r) : ds.length = 3 := by
  simp only [S_longer, S_ahead] at h; grind (ematch := 30) (gen := 30)
theorem len_ring_in {c : CA} {ds : List PyData} {r : Res} (h : S_ring_in c ds r) : ds.length = 1 := by
  simp only [S_ring_in, S_ahead] at h; grind (ematch := 30) (gen := 30)
theorem len_best_ways {c : CA} {ds : List PyData} {r : Res} (h : S_best_ways c ds r) : ds.length = 2 := by
  simp only [S_best_ways, S_ahead] at h; grind (ematch := 30) (gen := 30)
theorem len_turned {c : CA} {ds : List PyData} {r : Res} (h : S_turned c ds r) : ds.length = 2 := by
  simp only [S_turned, S_ahead] at h; grind (ematch := 30) (gen := 30)
theorem len_settled {c : CA} {ds : List PyData} {r : Res} (h : S_settled c ds r) : ds.length = 2 := by
  simp only [S_settled, S_ahead] at h; grind (ematch := 30) (gen := 30)
theorem len_best {c : CA} {ds : List PyData} {r : Res} (h : S_best c ds r) : ds.length = 1 := by
  simp only [S_best, S_ahead] at h; grind (ematch := 30) (gen := 30)
theorem len_law_deeds {c : CA} {ds : List PyData} {r : Res} (h : S_law_deeds c ds r) : ds.length = 2 := by
  simp only [S_law_deeds, S_ahead] at h; grind (ematch := 30) (gen := 30)
theorem len_need_ways {c : CA} {ds : List PyData} {r : Res} (h : S_need_ways c ds r) : ds.length = 2 := by
  simp only [S_need_ways, S_ahead] at h; grind (ematch := 30) (gen := 30)
theorem len_price_of {c : CA} {ds : List PyData} {r : Res} (h : S_price_of c ds r) : ds.length = 2 := by
  simp only [S_price_of, S_ahead] at h; grind (ematch := 30) (gen := 30)
theorem len_prices {c : CA} {ds : List PyData} {r : Res} (h : S_prices c ds r) : ds.length = 2 := by
  simp only [S_prices, S_ahead] at h; grind (ematch := 30) (gen := 30)
theorem len_parts_of {c : CA} {ds : List PyData} {r : Res} (h : S_parts_of c ds r) : ds.length = 3 := by
  simp only [S_parts_of, S_ahead] at h; grind (ematch := 30) (gen := 30)
theorem len_need_place {c : CA} {ds : List PyData} {r : Res} (h : S_need_place c ds r) : ds.length = 2 := by
  simp only [S_need_place, S_ahead] at h; grind (ematch := 30) (gen := 30)
theorem len_law_whole {c : CA} {ds : List PyData} {r : Res} (h : S_law_whole c ds r) : ds.length = 1 := by
  simp only [S_law_whole, S_ahead] at h; grind (ematch := 30) (gen := 30)
theorem len_law_places {c : CA} {ds : List PyData} {r : Res} (h : S_law_places c ds r) : ds.length = 3 := by
  simp only [S_law_places, S_ahead] at h; grind (ematch := 30) (gen := 30)
theorem len_law_fair {c : CA} {ds : List PyData} {r : Res} (h : S_law_fair c ds r) : ds.length = 3 := by
  simp only [S_law_fair, S_ahead] at h; grind (ematch := 30) (gen := 30)
theorem len_better {c : CA} {ds : List PyData} {r : Res} (h : S_better c ds r) : ds.length = 2 := by
  simp only [S_better, S_ahead] at h; grind (ematch := 30) (gen := 30)
theorem len_law_k10 {c : CA} {ds : List PyData} {r : Res} (h : S_law_k10 c ds r) : ds.length = 1 := by
  simp only [S_law_k10, S_ahead] at h; grind (ematch := 30) (gen := 30)
structure DefM (K : PySem.W.Frag) (name qual : Str) (st : Stmt) (ps : List Str) : Type where
  f : Addr
  fd : FuncData
  F : Fun K name qual st f fd
  b : Binds K fd ps []
structure HouseF (K : PySem.W.Frag) (mg : Str → Option Value) (C f : Addr) : Prop where
  g : mg "House" = some (.ref C)
  mkr : Mk K C f
structure Facts (K : PySem.W.Frag) (mg : Str → Option Value) : Type where
  c : CA
  b_all : mg "all" = none
  b_bool : mg "bool" = none
  b_int : mg "int" = none
  b_isinstance : mg "isinstance" = none
  b_len : mg "len" = none
  b_list : mg "list" = none
  b_max : mg "max" = none
  b_range : mg "range" = none
  b_sum : mg "sum" = none
  b_tuple : mg "tuple" = none
  k_MOST_COINS : ∃ t, mg "MOST_COINS" = some (.int 1000000 t)
  k_MOST_LODGERS : ∃ t, mg "MOST_LODGERS" = some (.int 8 t)
  k_MOST_RENT : ∃ t, mg "MOST_RENT" = some (.int 1000000000 t)
  x_BadRent : ExF K mg "BadRent" c.be
  x_BadRooms : ExF K mg "BadRooms" c.br
  x_BadTable : ExF K mg "BadTable" c.bt
  x_NotBest : ExF K mg "NotBest" c.nb
  law_cell_at : Def1 K mg "_law_cell_at" s_law_cell_at ["_law_script", "_law_k"]
  law_coins_by : Def1 K mg "_law_coins_by" s_law_coins_by ["_law_cell", "_law_mode"]
  law_table_by : Def1 K mg "_law_table_by" s_law_table_by ["_law_script", "_law_many"]
  is_whole : Def1 K mg "is_whole" s_is_whole ["thing"]
  is_row : Def1 K mg "is_row" s_is_row ["row", "many"]
  need_table : Def1 K mg "need_table" s_need_table ["wishes"]
  need_rent : Def1 K mg "need_rent" s_need_rent ["rent"]
  are_places : Def1 K mg "are_places" s_are_places ["things", "many"]
  need_rooms : Def1 K mg "need_rooms" s_need_rooms ["wishes", "rooms"]
  step : Def1 K mg "step" s_step ["wishes", "rooms", "one", "other"]
  first_ways : Def1 K mg "first_ways" s_first_ways ["wishes", "rooms"]
  longer_row : Def1 K mg "longer_row" s_longer_row ["wishes", "rooms", "row"]
  longer : Def1 K mg "longer" s_longer ["wishes", "rooms", "ways"]
  ring_in : Def1 K mg "ring_in" s_ring_in ["ways"]
  best_ways : Def1 K mg "best_ways" s_best_ways ["wishes", "rooms"]
  turned : Def1 K mg "turned" s_turned ["rooms", "ring"]
  settled : Def1 K mg "settled" s_settled ["wishes", "rooms"]
  best : Def1 K mg "best" s_best ["wishes"]
  house_init : DefM K "__init__" "House.__init__" s_house_init ["self", "wishes", "rent"]
  law_deeds : Def1 K mg "_law_deeds" s_law_deeds ["_law_script", "_law_many"]
  need_ways : Def1 K mg "need_ways" s_need_ways ["wishes", "rooms"]
  price_of : Def1 K mg "price_of" s_price_of ["ways", "other"]
  prices : Def1 K mg "prices" s_prices ["wishes", "rooms"]
  parts_of : Def1 K mg "parts_of" s_parts_of ["wishes", "rooms", "rent"]
  house_deal : DefM K "deal" "House.deal" s_house_deal ["self"]
  house_table : DefM K "table" "House.table" s_house_table ["self"]
  law_asked_k10 : Def1 K mg "_law_asked" s_law_asked_k10 ["_law_house"]
  need_place : Def1 K mg "need_place" s_need_place ["thing", "many"]
  house_bill_k10 : DefM K "bill" "House.bill" s_house_bill_k10 ["self", "lodger"]
  law_whole : Def1 K mg "_law_whole" s_law_whole ["_law_found"]
  law_places : Def1 K mg "_law_places" s_law_places ["_law_row", "_law_many", "_law_size"]
  law_fair : Def1 K mg "_law_fair" s_law_fair ["_law_table", "_law_found", "_law_rent"]
  better : Def1 K mg "better" s_better ["wishes", "rooms"]
  law_held : Def1 K mg "_law_held" s_law_held ["_law_house", "_law_table", "_law_rent", "_law_rooms", "_law_bill"]
  house_wish_k10 : DefM K "wish" "House.wish" s_house_wish_k10 ["self", "lodger", "room", "coins"]
  house_charge_k10 : DefM K "charge" "House.charge" s_house_charge_k10 ["self", "rent"]
  law_refused_k10 : Def1 K mg "_law_refused" s_law_refused_k10 ["_law_house", "_law_deed", "_law_kind"]
  law_k10 : Def1 K mg "law" s_law_k10 ["_law_script"]
  H : HouseF K mg c.ho house_init.f
  hk : HK K c.ho
  ex10 : EX10 K c
  m_house_deal : Meth K c.ho "deal" house_deal.f
  m_house_table : Meth K c.ho "table" house_table.f
  m_house_bill_k10 : Meth K c.ho "bill" house_bill_k10.f
  m_house_wish_k10 : Meth K c.ho "wish" house_wish_k10.f
  m_house_charge_k10 : Meth K c.ho "charge" house_charge_k10.f
section
variable {Pg : Program} {w : World} {K : PySem.W.Frag} {mg : Str → Option Value} {base : Heap}
theorem ok_law_cell_at (T : Facts K mg) : FnOk Pg w K mg base (L2.CX Pg w) 1 T.law_cell_at.f T.law_cell_at.fd ["_law_script", "_law_k"] (spOf K (S_law_cell_at T.c)) := by
  refine fn_ok T.law_cell_at.F sc_law_cell_at (fun ds r h => len_law_cell_at h) (fun cdv A outer s H E hr => ⟨_, ?_, fun ds r h => ht_law_cell_at h⟩)
  exact (pss_cons (ps_if (pt_cmpR o_lt (pv 1) (pe_callB c_len (by rfl) T.b_len bt_len (pa_cons (pv 0) pa_nil)) (nomark _)) (pss_one (ps_ret (pe_ix ix_seq (pv 0) (pv 1) (fun _ _ => rfl)))) pss_nil)
    (pss_one (ps_ret pe_int)))
theorem ok_law_coins_by (T : Facts K mg) : FnOk Pg w K mg base (L2.CX Pg w) 1 T.law_coins_by.f T.law_coins_by.fd ["_law_cell", "_law_mode"] (spOf K (S_law_coins_by T.c)) := by
  refine fn_ok T.law_coins_by.F sc_law_coins_by (fun ds r h => len_law_coins_by h) (fun cdv A outer s H E hr => ⟨_, ?_, fun ds r h => ht_law_coins_by h⟩)
  exact (pss_cons (ps_if (pt_cmpR (o_eq hr.units) (pv 1) pe_int (nomark _)) (pss_one (ps_ret (pe_op o_mod (pv 0) pe_int))) pss_nil)
    (pss_cons (ps_if (pt_cmpR (o_eq hr.units) (pv 1) pe_int (nomark _)) (pss_one (ps_ret (pe_op o_mod (pv 0) pe_int))) pss_nil)
    (pss_cons (ps_if (pt_cmpR (o_eq hr.units) (pv 1) pe_int (nomark _)) (pss_one (ps_ret (pe_op o_mul (pe_op o_mod (pv 0) pe_int) pe_int))) pss_nil)
    (pss_one (ps_ret (pe_op o_add pe_int (pe_op o_mod (pv 0) pe_int)))))))
theorem ok_law_table_by (T : Facts K mg) : FnOk Pg w K mg base (L2.CX Pg w) 2 T.law_table_by.f T.law_table_by.fd ["_law_script", "_law_many"] (sp_law_table_by K T.c) := by
  refine fn_okR T.law_table_by.F sc_law_table_by (fun vs H Q E h => lenr_law_table_by h) (fun cdv A outer s H E hr => ⟨_, ?_, fun vs Q h => htr_law_table_by h⟩)
  exact (pss_cons (ps_set (i := 2) sc_law_table_by.nd rfl (by first | exact Or.inl rfl | exact Or.inr rfl) (pe_op o_mod (pe_call (ok_law_cell_at T) (hr.mono (by decide)) (by rfl) T.law_cell_at.m T.law_cell_at.F.kp T.law_cell_at.b .nil (pass_call rfl rfl rfl rfl) (pa_cons (pv 0) (pa_cons pe_int pa_nil))) pe_int))
    (pss_cons (ps_set (i := 3) sc_law_table_by.nd rfl (by first | exact Or.inl rfl | exact Or.inr rfl) (pe_lst pa_nil))
    (pss_cons (ps_for (passes_of rfl) rfl (pi_range1 (by rfl) T.b_range (pa_cons (pv 1) pa_nil)) (pg_name (i := 4) sc_law_table_by.nd rfl (by first | exact Or.inl rfl | exact Or.inr rfl)) (pss_one (ps_expr (pe_bm PySem.F.plainAttrs_list PySem.F.slot_list_append PySem.F.type_list_append mt_append (pv 3) (pa_cons (pe_lc (own := [("_law_room", 5)]) rfl sc_law_table_by.nd (pi_range1 (by rfl) T.b_range (pa_cons (pv 1) pa_nil)) (blkOk_by (own := [("_law_room", 5)]) (N := N_law_table_by) (sc := defScope s_law_table_by) (by decide +kernel)) (fun _ _ _ _ _ => (pg_name (i := 5) sc_law_table_by.nd rfl (by first | exact Or.inl rfl | exact Or.inr rfl))) (fun _ _ _ _ _ => pts_nil) (fun _ _ _ _ _ => (pe_call (ok_law_coins_by T) (hr.mono (by decide)) (by rfl) T.law_coins_by.m T.law_coins_by.F.kp T.law_coins_by.b .nil passL (pa_cons (pe_call (ok_law_cell_at T) (hr.mono (by decide)) (by rfl) T.law_cell_at.m T.law_cell_at.F.kp T.law_cell_at.b .nil passL (pa_cons (pv 0) (pa_cons (pe_op o_add pe_int (pe_op o_mod (pe_op o_add (pe_op o_mul (pv 1) (pv 4)) (pv 5)) pe_int)) pa_nil))) (pa_cons (pv 2) pa_nil))))) pa_nil)))))
    (pss_one (ps_ret (pv 3))))))
theorem ok_is_whole (T : Facts K mg) : FnOk Pg w K mg base (L2.CX Pg w) 1 T.is_whole.f T.is_whole.fd ["thing"] (spOf K (S_is_whole T.c)) := by
  refine fn_ok T.is_whole.F sc_is_whole (fun ds r h => len_is_whole h) (fun cdv A outer s H E hr => ⟨_, ?_, fun ds r h => ht_is_whole h⟩)
  exact (pss_one (ps_ret (pe_and (pe_callB c_isi (by rfl) T.b_isinstance bt_isinstance (pa_cons (pv 0) (pa_cons (pe_bltn (v := .ty "int") (by rfl) T.b_int bt_int rfl) pa_nil))) (pe_one (pe_not (pe_callB c_isi (by rfl) T.b_isinstance bt_isinstance (pa_cons (pv 0) (pa_cons (pe_bltn (v := .ty "bool") (by rfl) T.b_bool bt_bool rfl) pa_nil))))))))
theorem ok_is_row (T : Facts K mg) : FnOk Pg w K mg base (L2.CX Pg w) 2 T.is_row.f T.is_row.fd ["row", "many"] (spOf K (S_is_row T.c)) := by
  refine fn_ok T.is_row.F sc_is_row (fun ds r h => len_is_row h) (fun cdv A outer s H E hr => ⟨_, ?_, fun ds r h => ht_is_row h⟩)
  exact (pss_cons (ps_if (PW.pt (pw_or (pt_not (pt_val (pe_callB c_isi (by rfl) T.b_isinstance bt_isinstance (pa_cons (pv 0) (pa_cons (pe_bltn (v := .ty "list") (by rfl) T.b_list bt_list rfl) pa_nil))))) (pw_or1 (pt_cmpR (o_ne hr.units) (pe_callB c_len (by rfl) T.b_len bt_len (pa_cons (pv 0) pa_nil)) (pv 1) (nomark _))))) (pss_one (ps_ret pe_bl)) pss_nil)
    (pss_one (ps_ret (pe_callB (c_all rfl) (by rfl) T.b_all bt_all (pa_cons (pe_lc (own := [("coins", 2)]) rfl sc_is_row.nd (pi_list (pv 0)) (blkOk_by (own := [("coins", 2)]) (N := N_is_row) (sc := defScope s_is_row) (by decide +kernel)) (fun _ _ _ _ _ => (pg_name (i := 2) sc_is_row.nd rfl (by first | exact Or.inl rfl | exact Or.inr rfl))) (fun _ _ _ _ _ => pts_nil) (fun _ _ _ _ _ => (pe_and (pe_call (ok_is_whole T) (hr.mono (by decide)) (by rfl) T.is_whole.m T.is_whole.F.kp T.is_whole.b .nil passL (pa_cons (pv 2) pa_nil)) (pe_one (pe_chain o_le o_le pe_int (pv 2) (pe_glob (by rfl) T.k_MOST_COINS.choose_spec ⟨_, rfl⟩)))))) pa_nil)))))
theorem ok_need_table (T : Facts K mg) : FnOk Pg w K mg base (L2.CX Pg w) 3 T.need_table.f T.need_table.fd ["wishes"] (spOf K (S_need_table T.c)) := by
  refine fn_ok T.need_table.F sc_need_table (fun ds r h => len_need_table h) (fun cdv A outer s H E hr => ⟨_, ?_, fun ds r h => ht_need_table h⟩)
  exact (pss_cons (ps_if (PW.pt (pw_or (pt_not (pt_val (pe_callB c_isi (by rfl) T.b_isinstance bt_isinstance (pa_cons (pv 0) (pa_cons (pe_bltn (v := .ty "list") (by rfl) T.b_list bt_list rfl) pa_nil))))) (pw_or1 (pt_not (pt_chain o_le o_le pe_int (pe_callB c_len (by rfl) T.b_len bt_len (pa_cons (pv 0) pa_nil)) (pe_glob (by rfl) T.k_MOST_LODGERS.choose_spec ⟨_, rfl⟩)))))) (pss_one (p_raise T.x_BadTable rfl rfl rfl rfl rfl (by rfl))) pss_nil)
    (pss_one (ps_for (passes_of rfl) rfl (pi_list (pv 0)) (pg_name (i := 1) sc_need_table.nd rfl (by first | exact Or.inl rfl | exact Or.inr rfl)) (pss_one (ps_if (pt_not (pt_val (pe_call (ok_is_row T) (hr.mono (by decide)) (by rfl) T.is_row.m T.is_row.F.kp T.is_row.b .nil (pass_call rfl rfl rfl rfl) (pa_cons (pv 1) (pa_cons (pe_callB c_len (by rfl) T.b_len bt_len (pa_cons (pv 0) pa_nil)) pa_nil))))) (pss_one (p_raise T.x_BadTable rfl rfl rfl rfl rfl (by rfl))) pss_nil)))))
theorem ok_need_rent (T : Facts K mg) : FnOk Pg w K mg base (L2.CX Pg w) 2 T.need_rent.f T.need_rent.fd ["rent"] (spOf K (S_need_rent T.c)) := by
  refine fn_ok T.need_rent.F sc_need_rent (fun ds r h => len_need_rent h) (fun cdv A outer s H E hr => ⟨_, ?_, fun ds r h => ht_need_rent h⟩)
  exact (pss_one (ps_if (PW.pt (pw_or (pt_not (pt_val (pe_call (ok_is_whole T) (hr.mono (by decide)) (by rfl) T.is_whole.m T.is_whole.F.kp T.is_whole.b .nil (pass_call rfl rfl rfl rfl) (pa_cons (pv 0) pa_nil)))) (pw_or1 (pt_not (pt_chain o_le o_le pe_int (pv 0) (pe_glob (by rfl) T.k_MOST_RENT.choose_spec ⟨_, rfl⟩)))))) (pss_one (p_raise T.x_BadRent rfl rfl rfl rfl rfl (by rfl))) pss_nil))
theorem ok_are_places (T : Facts K mg) : FnOk Pg w K mg base (L2.CX Pg w) 2 T.are_places.f T.are_places.fd ["things", "many"] (spOf K (S_are_places T.c)) := by
  refine fn_ok T.are_places.F sc_are_places (fun ds r h => len_are_places h) (fun cdv A outer s H E hr => ⟨_, ?_, fun ds r h => ht_are_places h⟩)
  exact (pss_cons (ps_if (pt_not (pt_val (pe_callB c_isi (by rfl) T.b_isinstance bt_isinstance (pa_cons (pv 0) (pa_cons (pe_bltn (v := .ty "list") (by rfl) T.b_list bt_list rfl) pa_nil))))) (pss_one (ps_ret pe_bl)) pss_nil)
    (pss_cons (ps_set (i := 2) sc_are_places.nd rfl (by first | exact Or.inl rfl | exact Or.inr rfl) pe_dnewK)
    (pss_cons (ps_for (passes_of rfl) rfl (pi_list (pv 0)) (pg_name (i := 3) sc_are_places.nd rfl (by first | exact Or.inl rfl | exact Or.inr rfl)) (pss_cons (ps_if (PW.pt (pw_or (pt_not (pt_val (pe_call (ok_is_whole T) (hr.mono (by decide)) (by rfl) T.is_whole.m T.is_whole.F.kp T.is_whole.b .nil (pass_call rfl rfl rfl rfl) (pa_cons (pv 3) pa_nil)))) (pw_or (pt_not (pt_chain o_le o_lt pe_int (pv 3) (pv 1))) (pw_or1 (pt_cmp (pc_din (hu_of hr) (pv 3) (pv 2)) rfl))))) (pss_one (ps_ret pe_bl)) pss_nil)
    (pss_one (ps_dput (hu_of hr) (pv 2) (pv 3) pe_bl rfl))))
    (pss_one (ps_ret pe_bl)))))
theorem ok_need_rooms (T : Facts K mg) : FnOk Pg w K mg base (L2.CX Pg w) 4 T.need_rooms.f T.need_rooms.fd ["wishes", "rooms"] (spOf K (S_need_rooms T.c)) := by
  refine fn_ok T.need_rooms.F sc_need_rooms (fun ds r h => len_need_rooms h) (fun cdv A outer s H E hr => ⟨_, ?_, fun ds r h => ht_need_rooms h⟩)
  exact (pss_cons (ps_expr (pe_call (ok_need_table T) (hr.mono (by decide)) (by rfl) T.need_table.m T.need_table.F.kp T.need_table.b .nil (pass_call rfl rfl rfl rfl) (pa_cons (pv 0) pa_nil)))
    (pss_one (ps_if (PW.pt (pw_or (pt_not (pt_val (pe_call (ok_are_places T) (hr.mono (by decide)) (by rfl) T.are_places.m T.are_places.F.kp T.are_places.b .nil (pass_call rfl rfl rfl rfl) (pa_cons (pv 1) (pa_cons (pe_callB c_len (by rfl) T.b_len bt_len (pa_cons (pv 0) pa_nil)) pa_nil))))) (pw_or1 (pt_cmpR (o_ne hr.units) (pe_callB c_len (by rfl) T.b_len bt_len (pa_cons (pv 1) pa_nil)) (pe_callB c_len (by rfl) T.b_len bt_len (pa_cons (pv 0) pa_nil)) (nomark _))))) (pss_one (p_raise T.x_BadRooms rfl rfl rfl rfl rfl (by rfl))) pss_nil)))
theorem ok_step (T : Facts K mg) : FnOk Pg w K mg base (L2.CX Pg w) 1 T.step.f T.step.fd ["wishes", "rooms", "one", "other"] (spOf K (S_step T.c)) := by
  refine fn_ok T.step.F sc_step (fun ds r h => len_step h) (fun cdv A outer s H E hr => ⟨_, ?_, fun ds r h => ht_step h⟩)
  exact (pss_one (ps_ret (pe_op o_sub (pe_ix ix_seq (pe_ix ix_seq (pv 0) (pv 2) (fun _ _ => rfl)) (pe_ix ix_seq (pv 1) (pv 3) (fun _ _ => rfl)) (fun _ _ => rfl)) (pe_ix ix_seq (pe_ix ix_seq (pv 0) (pv 2) (fun _ _ => rfl)) (pe_ix ix_seq (pv 1) (pv 2) (fun _ _ => rfl)) (fun _ _ => rfl)))))
theorem ok_first_ways (T : Facts K mg) : FnOk Pg w K mg base (L2.CX Pg w) 2 T.first_ways.f T.first_ways.fd ["wishes", "rooms"] (spOf K (S_first_ways T.c)) := by
  refine fn_ok T.first_ways.F sc_first_ways (fun ds r h => len_first_ways h) (fun cdv A outer s H E hr => ⟨_, ?_, fun ds r h => ht_first_ways h⟩)
  exact (pss_cons (ps_set (i := 2) sc_first_ways.nd rfl (by first | exact Or.inl rfl | exact Or.inr rfl) (pe_lst pa_nil))
    (pss_cons (ps_for (passes_of rfl) rfl (pi_range1 (by rfl) T.b_range (pa_cons (pe_callB c_len (by rfl) T.b_len bt_len (pa_cons (pv 1) pa_nil)) pa_nil)) (pg_name (i := 3) sc_first_ways.nd rfl (by first | exact Or.inl rfl | exact Or.inr rfl)) (pss_cons (ps_set (i := 4) sc_first_ways.nd rfl (by first | exact Or.inl rfl | exact Or.inr rfl) (pe_lst pa_nil))
    (pss_cons (ps_for (passes_of rfl) rfl (pi_range1 (by rfl) T.b_range (pa_cons (pe_callB c_len (by rfl) T.b_len bt_len (pa_cons (pv 1) pa_nil)) pa_nil)) (pg_name (i := 5) sc_first_ways.nd rfl (by first | exact Or.inl rfl | exact Or.inr rfl)) (pss_one (ps_if (pt_cmpR (o_eq hr.units) (pv 3) (pv 5) (nomark _)) (pss_one (ps_expr (pe_bm PySem.F.plainAttrs_list PySem.F.slot_list_append PySem.F.type_list_append mt_append (pv 4) (pa_cons (pe_tup (pa_cons pe_int (pa_cons (pe_lst (pa_cons (pv 3) pa_nil)) pa_nil))) pa_nil)))) (pss_one (ps_expr (pe_bm PySem.F.plainAttrs_list PySem.F.slot_list_append PySem.F.type_list_append mt_append (pv 4) (pa_cons (pe_tup (pa_cons (pe_call (ok_step T) (hr.mono (by decide)) (by rfl) T.step.m T.step.F.kp T.step.b .nil (pass_call rfl rfl rfl rfl) (pa_cons (pv 0) (pa_cons (pv 1) (pa_cons (pv 3) (pa_cons (pv 5) pa_nil))))) (pa_cons (pe_lst (pa_cons (pv 3) (pa_cons (pv 5) pa_nil))) pa_nil))) pa_nil)))))))
    (pss_one (ps_expr (pe_bm PySem.F.plainAttrs_list PySem.F.slot_list_append PySem.F.type_list_append mt_append (pv 2) (pa_cons (pv 4) pa_nil)))))))
    (pss_one (ps_ret (pv 2)))))
theorem ok_longer_row (T : Facts K mg) : FnOk Pg w K mg base (L2.CX Pg w) 2 T.longer_row.f T.longer_row.fd ["wishes", "rooms", "row"] (spOf K (S_longer_row T.c)) := by
  refine fn_ok T.longer_row.F sc_longer_row (fun ds r h => len_longer_row h) (fun cdv A outer s H E hr => ⟨_, ?_, fun ds r h => ht_longer_row h⟩)
  exact (pss_cons (ps_set (i := 3) sc_longer_row.nd rfl (by first | exact Or.inl rfl | exact Or.inr rfl) (pe_lst pa_nil))
    (pss_cons (ps_for (passes_of rfl) rfl (pi_range1 (by rfl) T.b_range (pa_cons (pe_callB c_len (by rfl) T.b_len bt_len (pa_cons (pv 1) pa_nil)) pa_nil)) (pg_name (i := 4) sc_longer_row.nd rfl (by first | exact Or.inl rfl | exact Or.inr rfl)) (pss_cons (ps_set (i := 5) sc_longer_row.nd rfl (by first | exact Or.inl rfl | exact Or.inr rfl) (pe_ix ix_seq (pv 2) (pv 4) (fun _ _ => rfl)))
    (pss_cons (ps_for (passes_of rfl) rfl (pi_range1 (by rfl) T.b_range (pa_cons (pe_callB c_len (by rfl) T.b_len bt_len (pa_cons (pv 1) pa_nil)) pa_nil)) (pg_name (i := 6) sc_longer_row.nd rfl (by first | exact Or.inl rfl | exact Or.inr rfl)) (pss_cons (ps_set (i := 7) sc_longer_row.nd rfl (by first | exact Or.inl rfl | exact Or.inr rfl) (pe_op o_add (pe_ix ix_seq (pe_ix ix_seq (pv 2) (pv 6) (fun _ _ => rfl)) pe_int (fun _ _ => rfl)) (pe_call (ok_step T) (hr.mono (by decide)) (by rfl) T.step.m T.step.F.kp T.step.b .nil (pass_call rfl rfl rfl rfl) (pa_cons (pv 0) (pa_cons (pv 1) (pa_cons (pv 6) (pa_cons (pv 4) pa_nil)))))))
    (pss_one (ps_if (pt_cmpR o_gt (pv 7) (pe_ix ix_seq (pv 5) pe_int (fun _ _ => rfl)) (nomark _)) (pss_one (ps_set (i := 5) sc_longer_row.nd rfl (by first | exact Or.inl rfl | exact Or.inr rfl) (pe_tup (pa_cons (pv 7) (pa_cons (pe_op o_add (pe_ix ix_seq (pe_ix ix_seq (pv 2) (pv 6) (fun _ _ => rfl)) pe_int (fun _ _ => rfl)) (pe_lst (pa_cons (pv 4) pa_nil))) pa_nil))))) pss_nil))))
    (pss_one (ps_expr (pe_bm PySem.F.plainAttrs_list PySem.F.slot_list_append PySem.F.type_list_append mt_append (pv 3) (pa_cons (pv 5) pa_nil)))))))
    (pss_one (ps_ret (pv 3)))))
theorem ok_longer (T : Facts K mg) : FnOk Pg w K mg base (L2.CX Pg w) 3 T.longer.f T.longer.fd ["wishes", "rooms", "ways"] (spOf K (S_longer T.c)) := by
  refine fn_ok T.longer.F sc_longer (fun ds r h => len_longer h) (fun cdv A outer s H E hr => ⟨_, ?_, fun ds r h => ht_longer h⟩)
  exact (pss_one (ps_ret (pe_lc (own := [("row", 3)]) rfl sc_longer.nd (pi_list (pv 2)) (blkOk_by (own := [("row", 3)]) (N := N_longer) (sc := defScope s_longer) (by decide +kernel)) (fun _ _ _ _ _ => (pg_name (i := 3) sc_longer.nd rfl (by first | exact Or.inl rfl | exact Or.inr rfl))) (fun _ _ _ _ _ => pts_nil) (fun _ _ _ _ _ => (pe_call (ok_longer_row T) (hr.mono (by decide)) (by rfl) T.longer_row.m T.longer_row.F.kp T.longer_row.b .nil passL (pa_cons (pv 0) (pa_cons (pv 1) (pa_cons (pv 3) pa_nil))))))))
theorem ok_ring_in (T : Facts K mg) : FnOk Pg w K mg base (L2.CX Pg w) 1 T.ring_in.f T.ring_in.fd ["ways"] (spOf K (S_ring_in T.c)) := by
  refine fn_ok T.ring_in.F sc_ring_in (fun ds r h => len_ring_in h) (fun cdv A outer s H E hr => ⟨_, ?_, fun ds r h => ht_ring_in h⟩)
  exact (pss_cons (ps_for (passes_of rfl) rfl (pi_range1 (by rfl) T.b_range (pa_cons (pe_callB c_len (by rfl) T.b_len bt_len (pa_cons (pv 0) pa_nil)) pa_nil)) (pg_name (i := 1) sc_ring_in.nd rfl (by first | exact Or.inl rfl | exact Or.inr rfl)) (pss_one (ps_if (pt_cmpR o_gt (pe_ix ix_seq (pe_ix ix_seq (pe_ix ix_seq (pv 0) (pv 1) (fun _ _ => rfl)) (pv 1) (fun _ _ => rfl)) pe_int (fun _ _ => rfl)) pe_int (nomark _)) (pss_one (ps_ret (pe_slice sl_list (pe_ix ix_seq (pe_ix ix_seq (pe_ix ix_seq (pv 0) (pv 1) (fun _ _ => rfl)) (pv 1) (fun _ _ => rfl)) pe_int (fun _ _ => rfl)) po_none (po_some (pe_un un_neg pe_int))))) pss_nil)))
    (pss_one (ps_ret pe_non)))
theorem ok_best_ways (T : Facts K mg) : FnOk Pg w K mg base (L2.CX Pg w) 4 T.best_ways.f T.best_ways.fd ["wishes", "rooms"] (spOf K (S_best_ways T.c)) := by
  refine fn_ok T.best_ways.F sc_best_ways (fun ds r h => len_best_ways h) (fun cdv A outer s H E hr => ⟨_, ?_, fun ds r h => ht_best_ways h⟩)
  exact (pss_cons (ps_set (i := 2) sc_best_ways.nd rfl (by first | exact Or.inl rfl | exact Or.inr rfl) (pe_call (ok_first_ways T) (hr.mono (by decide)) (by rfl) T.first_ways.m T.first_ways.F.kp T.first_ways.b .nil (pass_call rfl rfl rfl rfl) (pa_cons (pv 0) (pa_cons (pv 1) pa_nil))))
    (pss_cons (ps_for (passes_of rfl) rfl (pi_list (pv 1)) (pg_name (i := 3) sc_best_ways.nd rfl (by first | exact Or.inl rfl | exact Or.inr rfl)) (pss_cons (ps_set (i := 4) sc_best_ways.nd rfl (by first | exact Or.inl rfl | exact Or.inr rfl) (pe_call (ok_longer T) (hr.mono (by decide)) (by rfl) T.longer.m T.longer.F.kp T.longer.b .nil (pass_call rfl rfl rfl rfl) (pa_cons (pv 0) (pa_cons (pv 1) (pa_cons (pv 2) pa_nil)))))
    (pss_cons (ps_set (i := 5) sc_best_ways.nd rfl (by first | exact Or.inl rfl | exact Or.inr rfl) (pe_call (ok_ring_in T) (hr.mono (by decide)) (by rfl) T.ring_in.m T.ring_in.F.kp T.ring_in.b .nil (pass_call rfl rfl rfl rfl) (pa_cons (pv 4) pa_nil)))
    (pss_cons (ps_if (pt_cmpR o_notN (pv 5) pe_non (nomark _)) (pss_one (ps_ret (pe_tup (pa_cons (pv 5) (pa_cons (pv 4) pa_nil))))) pss_nil)
    (pss_cons (ps_if (pt_cmpR (o_eq hr.units) (pv 4) (pv 2) (nomark _)) (pss_one (ps_ret (pe_tup (pa_cons pe_non (pa_cons (pv 2) pa_nil))))) pss_nil)
    (pss_one (ps_set (i := 2) sc_best_ways.nd rfl (by first | exact Or.inl rfl | exact Or.inr rfl) (pv 4))))))))
    (pss_one (ps_ret (pe_tup (pa_cons pe_non (pa_cons (pv 2) pa_nil)))))))
theorem ok_turned (T : Facts K mg) : FnOk Pg w K mg base (L2.CX Pg w) 3 T.turned.f T.turned.fd ["rooms", "ring"] (spOf K (S_turned T.c)) := by
  refine fn_ok T.turned.F sc_turned (fun ds r h => len_turned h) (fun cdv A outer s H E hr => ⟨_, ?_, fun ds r h => ht_turned h⟩)
  exact (pss_cons (ps_if (PW.pt (pw_or (pt_not (pt_val (pe_callB c_isi (by rfl) T.b_isinstance bt_isinstance (pa_cons (pv 0) (pa_cons (pe_bltn (v := .ty "list") (by rfl) T.b_list bt_list rfl) pa_nil))))) (pw_or (pt_not (pt_chain o_le o_le pe_int (pe_callB c_len (by rfl) T.b_len bt_len (pa_cons (pv 0) pa_nil)) (pe_glob (by rfl) T.k_MOST_LODGERS.choose_spec ⟨_, rfl⟩))) (pw_or1 (pt_not (pt_val (pe_call (ok_are_places T) (hr.mono (by decide)) (by rfl) T.are_places.m T.are_places.F.kp T.are_places.b .nil (pass_call rfl rfl rfl rfl) (pa_cons (pv 0) (pa_cons (pe_callB c_len (by rfl) T.b_len bt_len (pa_cons (pv 0) pa_nil)) pa_nil))))))))) (pss_one (p_raise T.x_BadRooms rfl rfl rfl rfl rfl (by rfl))) pss_nil)
    (pss_cons (ps_if (PW.pt (pw_or (pt_not (pt_val (pe_call (ok_are_places T) (hr.mono (by decide)) (by rfl) T.are_places.m T.are_places.F.kp T.are_places.b .nil (pass_call rfl rfl rfl rfl) (pa_cons (pv 1) (pa_cons (pe_callB c_len (by rfl) T.b_len bt_len (pa_cons (pv 0) pa_nil)) pa_nil))))) (pw_or1 (pt_cmpR o_lt (pe_callB c_len (by rfl) T.b_len bt_len (pa_cons (pv 1) pa_nil)) pe_int (nomark _))))) (pss_one (p_raise T.x_BadRooms rfl rfl rfl rfl rfl (by rfl))) pss_nil)
    (pss_cons (ps_set (i := 2) sc_turned.nd rfl (by first | exact Or.inl rfl | exact Or.inr rfl) (pe_callTy c_list (by rfl) T.b_list bt_list (pa_cons (pv 0) pa_nil)))
    (pss_cons (ps_for (passes_of rfl) rfl (pi_range1 (by rfl) T.b_range (pa_cons (pe_callB c_len (by rfl) T.b_len bt_len (pa_cons (pv 1) pa_nil)) pa_nil)) (pg_name (i := 3) sc_turned.nd rfl (by first | exact Or.inl rfl | exact Or.inr rfl)) (pss_one (ps_asg (pe_ix ix_seq (pv 0) (pe_ix ix_seq (pv 1) (pe_op o_mod (pe_op o_add (pv 3) pe_int) (pe_callB c_len (by rfl) T.b_len bt_len (pa_cons (pv 1) pa_nil))) (fun _ _ => rfl)) (fun _ _ => rfl)) (pg_sub (pv 2) (pe_ix ix_seq (pv 1) (pv 3) (fun _ _ => rfl)) set_list))))
    (pss_one (ps_ret (pv 2)))))))
theorem ok_settled (T : Facts K mg) : FnOk Pg w K mg base (L2.CX Pg w) 5 T.settled.f T.settled.fd ["wishes", "rooms"] (spOf K (S_settled T.c)) := by
  refine fn_ok T.settled.F sc_settled (fun ds r h => len_settled h) (fun cdv A outer s H E hr => ⟨_, ?_, fun ds r h => ht_settled h⟩)
  exact (pss_cons (ps_expr (pe_call (ok_need_rooms T) (hr.mono (by decide)) (by rfl) T.need_rooms.m T.need_rooms.F.kp T.need_rooms.b .nil (pass_call rfl rfl rfl rfl) (pa_cons (pv 0) (pa_cons (pv 1) pa_nil))))
    (pss_cons (ps_set (i := 2) sc_settled.nd rfl (by first | exact Or.inl rfl | exact Or.inr rfl) (pe_callTy c_list (by rfl) T.b_list bt_list (pa_cons (pv 1) pa_nil)))
    (pss_cons (ps_set (i := 3) sc_settled.nd rfl (by first | exact Or.inl rfl | exact Or.inr rfl) (pe_ix ix_seq (pe_call (ok_best_ways T) (hr.mono (by decide)) (by rfl) T.best_ways.m T.best_ways.F.kp T.best_ways.b .nil (pass_call rfl rfl rfl rfl) (pa_cons (pv 0) (pa_cons (pv 2) pa_nil))) pe_int (fun _ _ => rfl)))
    (pss_cons (ps_while (passes_of rfl) (pt_cmpR o_notN (pv 3) pe_non (nomark _)) (pss_cons (ps_set (i := 2) sc_settled.nd rfl (by first | exact Or.inl rfl | exact Or.inr rfl) (pe_call (ok_turned T) (hr.mono (by decide)) (by rfl) T.turned.m T.turned.F.kp T.turned.b .nil (pass_call rfl rfl rfl rfl) (pa_cons (pv 2) (pa_cons (pv 3) pa_nil))))
    (pss_one (ps_set (i := 3) sc_settled.nd rfl (by first | exact Or.inl rfl | exact Or.inr rfl) (pe_ix ix_seq (pe_call (ok_best_ways T) (hr.mono (by decide)) (by rfl) T.best_ways.m T.best_ways.F.kp T.best_ways.b .nil (pass_call rfl rfl rfl rfl) (pa_cons (pv 0) (pa_cons (pv 2) pa_nil))) pe_int (fun _ _ => rfl))))))
    (pss_one (ps_ret (pv 2)))))))
theorem ok_best (T : Facts K mg) : FnOk Pg w K mg base (L2.CX Pg w) 6 T.best.f T.best.fd ["wishes"] (spOf K (S_best T.c)) := by
  refine fn_ok T.best.F sc_best (fun ds r h => len_best h) (fun cdv A outer s H E hr => ⟨_, ?_, fun ds r h => ht_best h⟩)
  exact (pss_cons (ps_expr (pe_call (ok_need_table T) (hr.mono (by decide)) (by rfl) T.need_table.m T.need_table.F.kp T.need_table.b .nil (pass_call rfl rfl rfl rfl) (pa_cons (pv 0) pa_nil)))
    (pss_one (ps_ret (pe_call (ok_settled T) (hr.mono (by decide)) (by rfl) T.settled.m T.settled.F.kp T.settled.b .nil (pass_call rfl rfl rfl rfl) (pa_cons (pv 0) (pa_cons (pe_listRg rfl (by rfl) T.b_list (prg_1 (by rfl) T.b_range (pe_callB c_len (by rfl) T.b_len bt_len (pa_cons (pv 0) pa_nil)))) pa_nil))))))
theorem ok_house_init (T : Facts K mg) : FnOk Pg w K mg base (L2.CX Pg w) 7 T.house_init.f T.house_init.fd ["self", "wishes", "rent"] (sp_house_init K T.c) := by
  refine fn_okR T.house_init.F sc_house_init (fun vs H Q E h => lenr_house_init h) (fun cdv A outer s H E hr => ⟨_, ?_, fun vs Q h => htr_house_init T.hk h⟩)
  exact (pss_cons (ps_expr (pe_call (ok_need_table T) (hr.mono (by decide)) (by rfl) T.need_table.m T.need_table.F.kp T.need_table.b .nil (pass_call rfl rfl rfl rfl) (pa_cons (pv 1) pa_nil)))
    (pss_cons (ps_expr (pe_call (ok_need_rent T) (hr.mono (by decide)) (by rfl) T.need_rent.m T.need_rent.F.kp T.need_rent.b .nil (pass_call rfl rfl rfl rfl) (pa_cons (pv 2) pa_nil)))
    (pss_cons (ps_fld (pv 0) (pe_lc (own := [("row", 3)]) rfl sc_house_init.nd (pi_list (pv 1)) (blkOk_by (own := [("row", 3)]) (N := N_house_init) (sc := defScope s_house_init) (by decide +kernel)) (fun _ _ _ _ _ => (pg_name (i := 3) sc_house_init.nd rfl (by first | exact Or.inl rfl | exact Or.inr rfl))) (fun _ _ _ _ _ => pts_nil) (fun _ _ _ _ _ => (pe_callTy c_list (by rfl) T.b_list bt_list (pa_cons (pv 3) pa_nil)))) rfl)
    (pss_cons (ps_fld (pv 0) (pv 2) rfl)
    (pss_one (ps_fld (pv 0) (pe_call (ok_best T) (hr.mono (by decide)) (by rfl) T.best.m T.best.F.kp T.best.b .nil (pass_call rfl rfl rfl rfl) (pa_cons (pv 1) pa_nil)) rfl))))))
theorem ok_law_deeds (T : Facts K mg) : FnOk Pg w K mg base (L2.CX Pg w) 2 T.law_deeds.f T.law_deeds.fd ["_law_script", "_law_many"] (spOf K (S_law_deeds T.c)) := by
  refine fn_ok T.law_deeds.F sc_law_deeds (fun ds r h => len_law_deeds h) (fun cdv A outer s H E hr => ⟨_, ?_, fun ds r h => ht_law_deeds h⟩)
  exact (pss_cons (ps_if (pt_cmpR o_lt (pv 1) pe_int (nomark _)) (pss_one (ps_ret (pe_slice sl_list (pv 0) (po_some pe_int) (po_some pe_int)))) pss_nil)
    (pss_cons (ps_if (pt_cmpR o_lt (pv 1) pe_int (nomark _)) (pss_one (ps_ret (pe_slice sl_list (pv 0) (po_some pe_int) (po_some pe_int)))) pss_nil)
    (pss_one (ps_ret (pe_slice sl_list (pv 0) (po_some pe_int) (po_some (pe_op o_add pe_int (pe_op o_mul pe_int (pe_callTy c_int1 (by rfl) T.b_int bt_int (pa_cons (pe_cmpR (o_eq hr.units) (pe_op o_mod (pe_op o_div (pe_call (ok_law_cell_at T) (hr.mono (by decide)) (by rfl) T.law_cell_at.m T.law_cell_at.F.kp T.law_cell_at.b .nil (pass_call rfl rfl rfl rfl) (pa_cons (pv 0) (pa_cons pe_int pa_nil))) pe_int) pe_int) pe_int (nomark _)) pa_nil))))))))))
theorem ok_need_ways (T : Facts K mg) : FnOk Pg w K mg base (L2.CX Pg w) 5 T.need_ways.f T.need_ways.fd ["wishes", "rooms"] (spOf K (S_need_ways T.c)) := by
  refine fn_ok T.need_ways.F sc_need_ways (fun ds r h => len_need_ways h) (fun cdv A outer s H E hr => ⟨_, ?_, fun ds r h => ht_need_ways h⟩)
  exact (pss_cons (ps_asg (pe_call (ok_best_ways T) (hr.mono (by decide)) (by rfl) T.best_ways.m T.best_ways.F.kp T.best_ways.b .nil (pass_call rfl rfl rfl rfl) (pa_cons (pv 0) (pa_cons (pv 1) pa_nil))) (pg_tup rfl (pgs_cons (pg_name (i := 2) sc_need_ways.nd rfl (by first | exact Or.inl rfl | exact Or.inr rfl)) (pgs_cons (pg_name (i := 3) sc_need_ways.nd rfl (by first | exact Or.inl rfl | exact Or.inr rfl)) pgs_nil))))
    (pss_cons (ps_if (pt_cmpR o_notN (pv 2) pe_non (nomark _)) (pss_one (p_raise T.x_NotBest rfl rfl rfl rfl rfl (by rfl))) pss_nil)
    (pss_one (ps_ret (pv 3)))))
theorem ok_price_of (T : Facts K mg) : FnOk Pg w K mg base (L2.CX Pg w) 1 T.price_of.f T.price_of.fd ["ways", "other"] (spOf K (S_price_of T.c)) := by
  refine fn_ok T.price_of.F sc_price_of (fun ds r h => len_price_of h) (fun cdv A outer s H E hr => ⟨_, ?_, fun ds r h => ht_price_of h⟩)
  exact (pss_one (ps_ret (pe_callB (c_max rfl) (by rfl) T.b_max bt_max (pa_cons (pe_lc (own := [("row", 2)]) rfl sc_price_of.nd (pi_list (pv 0)) (blkOk_by (own := [("row", 2)]) (N := N_price_of) (sc := defScope s_price_of) (by decide +kernel)) (fun _ _ _ _ _ => (pg_name (i := 2) sc_price_of.nd rfl (by first | exact Or.inl rfl | exact Or.inr rfl))) (fun _ _ _ _ _ => pts_nil) (fun _ _ _ _ _ => (pe_ix ix_seq (pe_ix ix_seq (pv 2) (pv 1) (fun _ _ => rfl)) pe_int (fun _ _ => rfl)))) pa_nil))))
theorem ok_prices (T : Facts K mg) : FnOk Pg w K mg base (L2.CX Pg w) 6 T.prices.f T.prices.fd ["wishes", "rooms"] (spOf K (S_prices T.c)) := by
  refine fn_ok T.prices.F sc_prices (fun ds r h => len_prices h) (fun cdv A outer s H E hr => ⟨_, ?_, fun ds r h => ht_prices h⟩)
  exact (pss_cons (ps_expr (pe_call (ok_need_rooms T) (hr.mono (by decide)) (by rfl) T.need_rooms.m T.need_rooms.F.kp T.need_rooms.b .nil (pass_call rfl rfl rfl rfl) (pa_cons (pv 0) (pa_cons (pv 1) pa_nil))))
    (pss_cons (ps_set (i := 2) sc_prices.nd rfl (by first | exact Or.inl rfl | exact Or.inr rfl) (pe_call (ok_need_ways T) (hr.mono (by decide)) (by rfl) T.need_ways.m T.need_ways.F.kp T.need_ways.b .nil (pass_call rfl rfl rfl rfl) (pa_cons (pv 0) (pa_cons (pv 1) pa_nil))))
    (pss_cons (ps_set (i := 3) sc_prices.nd rfl (by first | exact Or.inl rfl | exact Or.inr rfl) (pe_op o_mul (pe_lst (pa_cons pe_int pa_nil)) (pe_callB c_len (by rfl) T.b_len bt_len (pa_cons (pv 1) pa_nil))))
    (pss_cons (ps_for (passes_of rfl) rfl (pi_range1 (by rfl) T.b_range (pa_cons (pe_callB c_len (by rfl) T.b_len bt_len (pa_cons (pv 1) pa_nil)) pa_nil)) (pg_name (i := 4) sc_prices.nd rfl (by first | exact Or.inl rfl | exact Or.inr rfl)) (pss_one (ps_asg (pe_call (ok_price_of T) (hr.mono (by decide)) (by rfl) T.price_of.m T.price_of.F.kp T.price_of.b .nil (pass_call rfl rfl rfl rfl) (pa_cons (pv 2) (pa_cons (pv 4) pa_nil))) (pg_sub (pv 3) (pe_ix ix_seq (pv 1) (pv 4) (fun _ _ => rfl)) set_list))))
    (pss_one (ps_ret (pv 3)))))))
theorem ok_parts_of (T : Facts K mg) : FnOk Pg w K mg base (L2.CX Pg w) 7 T.parts_of.f T.parts_of.fd ["wishes", "rooms", "rent"] (spOf K (S_parts_of T.c)) := by
  refine fn_ok T.parts_of.F sc_parts_of (fun ds r h => len_parts_of h) (fun cdv A outer s H E hr => ⟨_, ?_, fun ds r h => ht_parts_of h⟩)
  exact (pss_cons (ps_set (i := 3) sc_parts_of.nd rfl (by first | exact Or.inl rfl | exact Or.inr rfl) (pe_call (ok_prices T) (hr.mono (by decide)) (by rfl) T.prices.m T.prices.F.kp T.prices.b .nil (pass_call rfl rfl rfl rfl) (pa_cons (pv 0) (pa_cons (pv 1) pa_nil))))
    (pss_cons (ps_set (i := 4) sc_parts_of.nd rfl (by first | exact Or.inl rfl | exact Or.inr rfl) (pe_op o_sub (pv 2) (pe_callB (c_sum rfl) (by rfl) T.b_sum bt_sum (pa_cons (pv 3) pa_nil))))
    (pss_one (ps_ret (pe_lc (own := [("price", 5)]) rfl sc_parts_of.nd (pi_list (pv 3)) (blkOk_by (own := [("price", 5)]) (N := N_parts_of) (sc := defScope s_parts_of) (by decide +kernel)) (fun _ _ _ _ _ => (pg_name (i := 5) sc_parts_of.nd rfl (by first | exact Or.inl rfl | exact Or.inr rfl))) (fun _ _ _ _ _ => pts_nil) (fun _ _ _ _ _ => (pe_op o_add (pe_op o_mul (pv 5) (pe_callB c_len (by rfl) T.b_len bt_len (pa_cons (pv 1) pa_nil))) (pv 4))))))))
theorem ok_house_deal (T : Facts K mg) : FnOk Pg w K mg base (L2.CX Pg w) 8 T.house_deal.f T.house_deal.fd ["self"] (sp_house_deal K T.c) := by
  refine fn_okR T.house_deal.F sc_house_deal (fun vs H Q E h => lenr_house_deal h) (fun cdv A outer s H E hr => ⟨_, ?_, fun vs Q h => htr_house_deal T.hk h⟩)
  exact (pss_one (ps_ret (pe_tup (pa_cons (pe_callTy c_list (by rfl) T.b_list bt_list (pa_cons (pe_fld (pv 0) rfl) pa_nil)) (pa_cons (pe_call (ok_parts_of T) (hr.mono (by decide)) (by rfl) T.parts_of.m T.parts_of.F.kp T.parts_of.b .nil (pass_call rfl rfl rfl rfl) (pa_cons (pe_fld (pv 0) rfl) (pa_cons (pe_fld (pv 0) rfl) (pa_cons (pe_fld (pv 0) rfl) pa_nil)))) pa_nil)))))
theorem ok_house_table (T : Facts K mg) : FnOk Pg w K mg base (L2.CX Pg w) 1 T.house_table.f T.house_table.fd ["self"] (sp_house_table K T.c) := by
  refine fn_okR T.house_table.F sc_house_table (fun vs H Q E h => lenr_house_table h) (fun cdv A outer s H E hr => ⟨_, ?_, fun vs Q h => htr_house_table T.hk h⟩)
  exact (pss_one (ps_ret (pe_lc (own := [("row", 1)]) rfl sc_house_table.nd (pi_list (pe_fld (pv 0) rfl)) (blkOk_by (own := [("row", 1)]) (N := N_house_table) (sc := defScope s_house_table) (by decide +kernel)) (fun _ _ _ _ _ => (pg_name (i := 1) sc_house_table.nd rfl (by first | exact Or.inl rfl | exact Or.inr rfl))) (fun _ _ _ _ _ => pts_nil) (fun _ _ _ _ _ => (pe_callTy c_list (by rfl) T.b_list bt_list (pa_cons (pv 1) pa_nil))))))
theorem ok_law_asked_k10 (T : Facts K mg) : FnOk Pg w K mg base (L2.CX Pg w) 9 T.law_asked_k10.f T.law_asked_k10.fd ["_law_house"] (sp_law_asked_k10 K T.c) := by
  refine fn_okR T.law_asked_k10.F sc_law_asked_k10 (fun vs H Q E h => lenr_law_asked_k10 h) (fun cdv A outer s H E hr => ⟨_, ?_, fun vs Q h => htr_law_asked_k10 T.hk h⟩)
  exact (pss_cons (ps_set (i := 1) sc_law_asked_k10.nd rfl (by first | exact Or.inl rfl | exact Or.inr rfl) (pe_meth0 (pv 0) T.hk.cl T.m_house_deal (ok_house_deal T) (hr.mono (by decide)) T.house_deal.b .nil (pass_call rfl rfl rfl rfl)))
    (pss_cons (ps_set (i := 2) sc_law_asked_k10.nd rfl (by first | exact Or.inl rfl | exact Or.inr rfl) (pe_meth0 (pv 0) T.hk.cl T.m_house_table (ok_house_table T) (hr.mono (by decide)) T.house_table.b .nil (pass_call rfl rfl rfl rfl)))
    (pss_one (ps_ret (pe_tup (pa_cons (pe_lst (pa_cons (pv 1) (pa_cons (pv 2) pa_nil))) (pa_cons (pe_lst (pa_cons (pe_tup (pa_cons (pe_callTy c_list (by rfl) T.b_list bt_list (pa_cons (pe_ix ix_seq (pv 1) pe_int (fun _ _ => rfl)) pa_nil)) (pa_cons (pe_callTy c_list (by rfl) T.b_list bt_list (pa_cons (pe_ix ix_seq (pv 1) pe_int (fun _ _ => rfl)) pa_nil)) pa_nil))) (pa_cons (pe_lc (own := [("_law_row", 3)]) rfl sc_law_asked_k10.nd (pi_list (pv 2)) (blkOk_by (own := [("_law_row", 3)]) (N := N_law_asked_k10) (sc := defScope s_law_asked_k10) (by decide +kernel)) (fun _ _ _ _ _ => (pg_name (i := 3) sc_law_asked_k10.nd rfl (by first | exact Or.inl rfl | exact Or.inr rfl))) (fun _ _ _ _ _ => pts_nil) (fun _ _ _ _ _ => (pe_callTy c_list (by rfl) T.b_list bt_list (pa_cons (pv 3) pa_nil)))) pa_nil))) pa_nil)))))))
theorem ok_need_place (T : Facts K mg) : FnOk Pg w K mg base (L2.CX Pg w) 2 T.need_place.f T.need_place.fd ["thing", "many"] (spOf K (S_need_place T.c)) := by
  refine fn_ok T.need_place.F sc_need_place (fun ds r h => len_need_place h) (fun cdv A outer s H E hr => ⟨_, ?_, fun ds r h => ht_need_place h⟩)
  exact (pss_one (ps_if (PW.pt (pw_or (pt_not (pt_val (pe_call (ok_is_whole T) (hr.mono (by decide)) (by rfl) T.is_whole.m T.is_whole.F.kp T.is_whole.b .nil (pass_call rfl rfl rfl rfl) (pa_cons (pv 0) pa_nil)))) (pw_or1 (pt_not (pt_chain o_le o_lt pe_int (pv 0) (pv 1)))))) (pss_one (p_raise T.x_BadRooms rfl rfl rfl rfl rfl (by rfl))) pss_nil))
theorem ok_house_bill_k10 (T : Facts K mg) : FnOk Pg w K mg base (L2.CX Pg w) 9 T.house_bill_k10.f T.house_bill_k10.fd ["self", "lodger"] (sp_house_bill_k10 K T.c) := by
  refine fn_okR T.house_bill_k10.F sc_house_bill_k10 (fun vs H Q E h => lenr_house_bill_k10 h) (fun cdv A outer s H E hr => ⟨_, ?_, fun vs Q h => htr_house_bill_k10 T.hk h⟩)
  exact (pss_cons (ps_expr (pe_call (ok_need_place T) (hr.mono (by decide)) (by rfl) T.need_place.m T.need_place.F.kp T.need_place.b .nil (pass_call rfl rfl rfl rfl) (pa_cons (pv 1) (pa_cons (pe_callB c_len (by rfl) T.b_len bt_len (pa_cons (pe_fld (pv 0) rfl) pa_nil)) pa_nil))))
    (pss_one (ps_ret (pe_ix ix_seq (pe_ix ix_seq (pe_meth0 (pv 0) T.hk.cl T.m_house_deal (ok_house_deal T) (hr.mono (by decide)) T.house_deal.b .nil (pass_call rfl rfl rfl rfl)) pe_int (fun _ _ => rfl)) (pe_ix ix_seq (pe_fld (pv 0) rfl) (pv 1) (fun _ _ => rfl)) (fun _ _ => rfl)))))
theorem ok_law_whole (T : Facts K mg) : FnOk Pg w K mg base (L2.CX Pg w) 1 T.law_whole.f T.law_whole.fd ["_law_found"] (spOf K (S_law_whole T.c)) := by
  refine fn_ok T.law_whole.F sc_law_whole (fun ds r h => len_law_whole h) (fun cdv A outer s H E hr => ⟨_, ?_, fun ds r h => ht_law_whole h⟩)
  exact (pss_one (ps_ret (pe_and (pe_callB c_isi (by rfl) T.b_isinstance bt_isinstance (pa_cons (pv 0) (pa_cons (pe_bltn (v := .ty "int") (by rfl) T.b_int bt_int rfl) pa_nil))) (pe_one (pe_not (pe_callB c_isi (by rfl) T.b_isinstance bt_isinstance (pa_cons (pv 0) (pa_cons (pe_bltn (v := .ty "bool") (by rfl) T.b_bool bt_bool rfl) pa_nil))))))))
theorem ok_law_places (T : Facts K mg) : FnOk Pg w K mg base (L2.CX Pg w) 2 T.law_places.f T.law_places.fd ["_law_row", "_law_many", "_law_size"] (spOf K (S_law_places T.c)) := by
  refine fn_ok T.law_places.F sc_law_places (fun ds r h => len_law_places h) (fun cdv A outer s H E hr => ⟨_, ?_, fun ds r h => ht_law_places h⟩)
  exact (pss_cons (ps_if (PW.pt (pw_or (pt_not (pt_val (pe_callB c_isi (by rfl) T.b_isinstance bt_isinstance (pa_cons (pv 0) (pa_cons (pe_bltn (v := .ty "list") (by rfl) T.b_list bt_list rfl) pa_nil))))) (pw_or1 (pt_cmpR (o_ne hr.units) (pe_callB c_len (by rfl) T.b_len bt_len (pa_cons (pv 0) pa_nil)) (pv 2) (nomark _))))) (pss_one (ps_ret pe_bl)) pss_nil)
    (pss_cons (ps_for (passes_of rfl) rfl (pi_range1 (by rfl) T.b_range (pa_cons (pv 2) pa_nil)) (pg_name (i := 3) sc_law_places.nd rfl (by first | exact Or.inl rfl | exact Or.inr rfl)) (pss_one (ps_if (PW.pt (pw_or (pt_not (pt_val (pe_call (ok_law_whole T) (hr.mono (by decide)) (by rfl) T.law_whole.m T.law_whole.F.kp T.law_whole.b .nil (pass_call rfl rfl rfl rfl) (pa_cons (pe_ix ix_seq (pv 0) (pv 3) (fun _ _ => rfl)) pa_nil)))) (pw_or (pt_cmpR o_lt (pe_ix ix_seq (pv 0) (pv 3) (fun _ _ => rfl)) pe_int (nomark _)) (pw_or (pt_cmpR o_ge (pe_ix ix_seq (pv 0) (pv 3) (fun _ _ => rfl)) (pv 1) (nomark _)) (pw_or1 (pt_cmpR op_in_seq (pe_ix ix_seq (pv 0) (pv 3) (fun _ _ => rfl)) (pe_slice sl_list (pv 0) po_none (po_some (pv 3))) (by with_unfolding_all rfl))))))) (pss_one (ps_ret pe_bl)) pss_nil)))
    (pss_one (ps_ret pe_bl))))
theorem ok_law_fair (T : Facts K mg) : FnOk Pg w K mg base (L2.CX Pg w) 7 T.law_fair.f T.law_fair.fd ["_law_table", "_law_found", "_law_rent"] (spOf K (S_law_fair T.c)) := by
  refine fn_ok T.law_fair.F sc_law_fair (fun ds r h => len_law_fair h) (fun cdv A outer s H E hr => ⟨_, ?_, fun ds r h => ht_law_fair h⟩)
  exact (pss_cons (ps_set (i := 3) sc_law_fair.nd rfl (by first | exact Or.inl rfl | exact Or.inr rfl) (pe_callB c_len (by rfl) T.b_len bt_len (pa_cons (pv 0) pa_nil)))
    (pss_cons (ps_if (PW.pt (pw_or (pt_not (pt_val (pe_callB c_isi (by rfl) T.b_isinstance bt_isinstance (pa_cons (pv 1) (pa_cons (pe_bltn (v := .ty "tuple") (by rfl) T.b_tuple bt_tuple rfl) pa_nil))))) (pw_or (pt_cmpR (o_ne hr.units) (pe_callB c_len (by rfl) T.b_len bt_len (pa_cons (pv 1) pa_nil)) pe_int (nomark _)) (pw_or1 (pt_not (pt_val (pe_call (ok_law_places T) (hr.mono (by decide)) (by rfl) T.law_places.m T.law_places.F.kp T.law_places.b .nil (pass_call rfl rfl rfl rfl) (pa_cons (pe_ix ix_seq (pv 1) pe_int (fun _ _ => rfl)) (pa_cons (pv 3) (pa_cons (pv 3) pa_nil)))))))))) (pss_one (ps_ret pe_bl)) pss_nil)
    (pss_cons (ps_set (i := 4) sc_law_fair.nd rfl (by first | exact Or.inl rfl | exact Or.inr rfl) (pe_ix ix_seq (pv 1) pe_int (fun _ _ => rfl)))
    (pss_cons (ps_set (i := 5) sc_law_fair.nd rfl (by first | exact Or.inl rfl | exact Or.inr rfl) (pe_ix ix_seq (pv 1) pe_int (fun _ _ => rfl)))
    (pss_cons (ps_set (i := 6) sc_law_fair.nd rfl (by first | exact Or.inl rfl | exact Or.inr rfl) (pe_call (ok_prices T) (hr.mono (by decide)) (by rfl) T.prices.m T.prices.F.kp T.prices.b .nil (pass_call rfl rfl rfl rfl) (pa_cons (pe_lc (own := [("_law_wishes", 11)]) rfl sc_law_fair.nd (pi_list (pv 0)) (blkOk_by (own := [("_law_wishes", 11)]) (N := N_law_fair) (sc := defScope s_law_fair) (by decide +kernel)) (fun _ _ _ _ _ => (pg_name (i := 11) sc_law_fair.nd rfl (by first | exact Or.inl rfl | exact Or.inr rfl))) (fun _ _ _ _ _ => pts_nil) (fun _ _ _ _ _ => (pe_callTy c_list (by rfl) T.b_list bt_list (pa_cons (pv 11) pa_nil)))) (pa_cons (pe_callTy c_list (by rfl) T.b_list bt_list (pa_cons (pv 4) pa_nil)) pa_nil))))
    (pss_cons (ps_if (PW.pt (pw_or (pt_not (pt_val (pe_callB c_isi (by rfl) T.b_isinstance bt_isinstance (pa_cons (pv 5) (pa_cons (pe_bltn (v := .ty "list") (by rfl) T.b_list bt_list rfl) pa_nil))))) (pw_or1 (pt_cmpR (o_ne hr.units) (pe_callB c_len (by rfl) T.b_len bt_len (pa_cons (pv 5) pa_nil)) (pv 3) (nomark _))))) (pss_one (ps_ret pe_bl)) pss_nil)
    (pss_cons (ps_if (PW.pt (pw_or (pt_not (pt_val (pe_callB c_isi (by rfl) T.b_isinstance bt_isinstance (pa_cons (pv 6) (pa_cons (pe_bltn (v := .ty "list") (by rfl) T.b_list bt_list rfl) pa_nil))))) (pw_or1 (pt_cmpR (o_ne hr.units) (pe_callB c_len (by rfl) T.b_len bt_len (pa_cons (pv 6) pa_nil)) (pv 3) (nomark _))))) (pss_one (ps_ret pe_bl)) pss_nil)
    (pss_cons (ps_set (i := 7) sc_law_fair.nd rfl (by first | exact Or.inl rfl | exact Or.inr rfl) pe_int)
    (pss_cons (ps_for (passes_of rfl) rfl (pi_range1 (by rfl) T.b_range (pa_cons (pv 3) pa_nil)) (pg_name (i := 8) sc_law_fair.nd rfl (by first | exact Or.inl rfl | exact Or.inr rfl)) (pss_cons (ps_if (PW.pt (pw_or (pt_not (pt_val (pe_call (ok_law_whole T) (hr.mono (by decide)) (by rfl) T.law_whole.m T.law_whole.F.kp T.law_whole.b .nil (pass_call rfl rfl rfl rfl) (pa_cons (pe_ix ix_seq (pv 5) (pv 8) (fun _ _ => rfl)) pa_nil)))) (pw_or1 (pt_cmpR (o_ne hr.units) (pe_op o_sub (pe_ix ix_seq (pv 5) (pv 8) (fun _ _ => rfl)) (pe_ix ix_seq (pv 5) pe_int (fun _ _ => rfl))) (pe_op o_mul (pv 3) (pe_op o_sub (pe_ix ix_seq (pv 6) (pv 8) (fun _ _ => rfl)) (pe_ix ix_seq (pv 6) pe_int (fun _ _ => rfl)))) (nomark _))))) (pss_one (ps_ret pe_bl)) pss_nil)
    (pss_one (ps_set (i := 7) sc_law_fair.nd rfl (by first | exact Or.inl rfl | exact Or.inr rfl) (pe_op o_add (pv 7) (pe_ix ix_seq (pv 5) (pv 8) (fun _ _ => rfl)))))))
    (pss_cons (ps_for (passes_of rfl) rfl (pi_range1 (by rfl) T.b_range (pa_cons (pv 3) pa_nil)) (pg_name (i := 9) sc_law_fair.nd rfl (by first | exact Or.inl rfl | exact Or.inr rfl)) (pss_one (ps_for (passes_of rfl) rfl (pi_range1 (by rfl) T.b_range (pa_cons (pv 3) pa_nil)) (pg_name (i := 8) sc_law_fair.nd rfl (by first | exact Or.inl rfl | exact Or.inr rfl)) (pss_cons (ps_set (i := 10) sc_law_fair.nd rfl (by first | exact Or.inl rfl | exact Or.inr rfl) (pe_op o_mul (pv 3) (pe_op o_sub (pe_ix ix_seq (pe_ix ix_seq (pv 0) (pv 9) (fun _ _ => rfl)) (pv 8) (fun _ _ => rfl)) (pe_ix ix_seq (pe_ix ix_seq (pv 0) (pv 9) (fun _ _ => rfl)) (pe_ix ix_seq (pv 4) (pv 9) (fun _ _ => rfl)) (fun _ _ => rfl)))))
    (pss_one (ps_if (pt_cmpR o_gt (pe_op o_add (pe_op o_sub (pv 10) (pe_ix ix_seq (pv 5) (pv 8) (fun _ _ => rfl))) (pe_ix ix_seq (pv 5) (pe_ix ix_seq (pv 4) (pv 9) (fun _ _ => rfl)) (fun _ _ => rfl))) pe_int (nomark _)) (pss_one (ps_ret pe_bl)) pss_nil))))))
    (pss_one (ps_ret (pe_cmpR (o_eq hr.units) (pv 7) (pe_op o_mul (pv 3) (pv 2)) (nomark _))))))))))))))
theorem ok_better (T : Facts K mg) : FnOk Pg w K mg base (L2.CX Pg w) 5 T.better.f T.better.fd ["wishes", "rooms"] (spOf K (S_better T.c)) := by
  refine fn_ok T.better.F sc_better (fun ds r h => len_better h) (fun cdv A outer s H E hr => ⟨_, ?_, fun ds r h => ht_better h⟩)
  exact (pss_cons (ps_expr (pe_call (ok_need_rooms T) (hr.mono (by decide)) (by rfl) T.need_rooms.m T.need_rooms.F.kp T.need_rooms.b .nil (pass_call rfl rfl rfl rfl) (pa_cons (pv 0) (pa_cons (pv 1) pa_nil))))
    (pss_one (ps_ret (pe_ix ix_seq (pe_call (ok_best_ways T) (hr.mono (by decide)) (by rfl) T.best_ways.m T.best_ways.F.kp T.best_ways.b .nil (pass_call rfl rfl rfl rfl) (pa_cons (pv 0) (pa_cons (pv 1) pa_nil))) pe_int (fun _ _ => rfl)))))
theorem ok_law_held (T : Facts K mg) : FnOk Pg w K mg base (L2.CX Pg w) 10 T.law_held.f T.law_held.fd ["_law_house", "_law_table", "_law_rent", "_law_rooms", "_law_bill"] (sp_law_held K T.c) := by
  refine fn_okR T.law_held.F sc_law_held (fun vs H Q E h => lenr_law_held h) (fun cdv A outer s H E hr => ⟨_, ?_, fun vs Q h => htr_law_held T.hk h⟩)
  exact (pss_cons (ps_set (i := 5) sc_law_held.nd rfl (by first | exact Or.inl rfl | exact Or.inr rfl) (pe_meth0 (pv 0) T.hk.cl T.m_house_deal (ok_house_deal T) (hr.mono (by decide)) T.house_deal.b .nil (pass_call rfl rfl rfl rfl)))
    (pss_cons (ps_if (PW.pt (pw_or (pt_cmpR (o_ne hr.units) (pe_meth0 (pv 0) T.hk.cl T.m_house_table (ok_house_table T) (hr.mono (by decide)) T.house_table.b .nil (pass_call rfl rfl rfl rfl)) (pv 1) (nomark _)) (pw_or1 (pt_not (pt_val (pe_call (ok_law_fair T) (hr.mono (by decide)) (by rfl) T.law_fair.m T.law_fair.F.kp T.law_fair.b .nil (pass_call rfl rfl rfl rfl) (pa_cons (pv 1) (pa_cons (pv 5) (pa_cons (pv 2) pa_nil))))))))) (pss_one (ps_ret pe_bl)) pss_nil)
    (pss_cons (ps_if (PW.pt (pw_and (pt_cmpR o_isN (pe_call (ok_better T) (hr.mono (by decide)) (by rfl) T.better.m T.better.F.kp T.better.b .nil (pass_call rfl rfl rfl rfl) (pa_cons (pe_lc (own := [("_law_row", 7)]) rfl sc_law_held.nd (pi_list (pv 1)) (blkOk_by (own := [("_law_row", 7)]) (N := N_law_held) (sc := defScope s_law_held) (by decide +kernel)) (fun _ _ _ _ _ => (pg_name (i := 7) sc_law_held.nd rfl (by first | exact Or.inl rfl | exact Or.inr rfl))) (fun _ _ _ _ _ => pts_nil) (fun _ _ _ _ _ => (pe_callTy c_list (by rfl) T.b_list bt_list (pa_cons (pv 7) pa_nil)))) (pa_cons (pe_callTy c_list (by rfl) T.b_list bt_list (pa_cons (pv 3) pa_nil)) pa_nil))) pe_non (nomark _)) (pw_and1 (pt_cmpR (o_ne hr.units) (pe_ix ix_seq (pv 5) pe_int (fun _ _ => rfl)) (pv 3) (nomark _))))) (pss_one (ps_ret pe_bl)) pss_nil)
    (pss_cons (ps_set (i := 6) sc_law_held.nd rfl (by first | exact Or.inl rfl | exact Or.inr rfl) (pe_meth (pv 0) T.hk.cl T.m_house_bill_k10 (ok_house_bill_k10 T) (hr.mono (by decide)) T.house_bill_k10.b .nil (pass_call rfl rfl rfl rfl) (pa_cons (pv 4) pa_nil)))
    (pss_cons (ps_if (PW.pt (pw_or (pt_not (pt_val (pe_call (ok_law_whole T) (hr.mono (by decide)) (by rfl) T.law_whole.m T.law_whole.F.kp T.law_whole.b .nil (pass_call rfl rfl rfl rfl) (pa_cons (pv 6) pa_nil)))) (pw_or1 (pt_cmpR (o_ne hr.units) (pv 6) (pe_ix ix_seq (pe_ix ix_seq (pv 5) pe_int (fun _ _ => rfl)) (pe_ix ix_seq (pe_ix ix_seq (pv 5) pe_int (fun _ _ => rfl)) (pv 4) (fun _ _ => rfl)) (fun _ _ => rfl)) (nomark _))))) (pss_one (ps_ret pe_bl)) pss_nil)
    (pss_cons (ps_expr (pe_bm PySem.F.plainAttrs_list PySem.F.slot_list_append PySem.F.type_list_append mt_append (pe_ix ix_seq (pv 5) pe_int (fun _ _ => rfl)) (pa_cons pe_int pa_nil)))
    (pss_cons (ps_expr (pe_bm PySem.F.plainAttrs_list PySem.F.slot_list_append PySem.F.type_list_append mt_append (pe_ix ix_seq (pv 5) pe_int (fun _ _ => rfl)) (pa_cons pe_int pa_nil)))
    (pss_cons (ps_expr (pe_bm PySem.F.plainAttrs_list PySem.F.slot_list_append PySem.F.type_list_append mt_append (pe_ix ix_seq (pe_meth0 (pv 0) T.hk.cl T.m_house_table (ok_house_table T) (hr.mono (by decide)) T.house_table.b .nil (pass_call rfl rfl rfl rfl)) pe_int (fun _ _ => rfl)) (pa_cons pe_int pa_nil)))
    (pss_cons (ps_if (PW.pt (pw_or (pt_cmpR (o_ne hr.units) (pe_meth0 (pv 0) T.hk.cl T.m_house_table (ok_house_table T) (hr.mono (by decide)) T.house_table.b .nil (pass_call rfl rfl rfl rfl)) (pv 1) (nomark _)) (pw_or1 (pt_cmpR (o_ne hr.units) (pe_callB c_len (by rfl) T.b_len bt_len (pa_cons (pe_ix ix_seq (pe_meth0 (pv 0) T.hk.cl T.m_house_deal (ok_house_deal T) (hr.mono (by decide)) T.house_deal.b .nil (pass_call rfl rfl rfl rfl)) pe_int (fun _ _ => rfl)) pa_nil)) (pe_callB c_len (by rfl) T.b_len bt_len (pa_cons (pv 1) pa_nil)) (nomark _))))) (pss_one (ps_ret pe_bl)) pss_nil)
    (pss_one (ps_ret (pe_and (pe_cmpR (o_eq hr.units) (pe_callB c_len (by rfl) T.b_len bt_len (pa_cons (pe_ix ix_seq (pv 5) pe_int (fun _ _ => rfl)) pa_nil)) (pe_op o_add (pe_callB c_len (by rfl) T.b_len bt_len (pa_cons (pv 1) pa_nil)) pe_int) (nomark _)) (pe_one (pe_cmpR (o_eq hr.units) (pe_callB c_len (by rfl) T.b_len bt_len (pa_cons (pe_ix ix_seq (pv 5) pe_int (fun _ _ => rfl)) pa_nil)) (pe_op o_add (pe_callB c_len (by rfl) T.b_len bt_len (pa_cons (pv 1) pa_nil)) pe_int) (nomark _)))))))))))))))
theorem ok_house_wish_k10 (T : Facts K mg) : FnOk Pg w K mg base (L2.CX Pg w) 6 T.house_wish_k10.f T.house_wish_k10.fd ["self", "lodger", "room", "coins"] (sp_house_wish_k10 K T.c) := by
  refine fn_okR T.house_wish_k10.F sc_house_wish_k10 (fun vs H Q E h => lenr_house_wish_k10 h) (fun cdv A outer s H E hr => ⟨_, ?_, fun vs Q h => htr_house_wish_k10 T.hk h⟩)
  exact (pss_cons (ps_expr (pe_call (ok_need_place T) (hr.mono (by decide)) (by rfl) T.need_place.m T.need_place.F.kp T.need_place.b .nil (pass_call rfl rfl rfl rfl) (pa_cons (pv 1) (pa_cons (pe_callB c_len (by rfl) T.b_len bt_len (pa_cons (pe_fld (pv 0) rfl) pa_nil)) pa_nil))))
    (pss_cons (ps_expr (pe_call (ok_need_place T) (hr.mono (by decide)) (by rfl) T.need_place.m T.need_place.F.kp T.need_place.b .nil (pass_call rfl rfl rfl rfl) (pa_cons (pv 2) (pa_cons (pe_callB c_len (by rfl) T.b_len bt_len (pa_cons (pe_fld (pv 0) rfl) pa_nil)) pa_nil))))
    (pss_cons (ps_if (PW.pt (pw_or (pt_not (pt_val (pe_call (ok_is_whole T) (hr.mono (by decide)) (by rfl) T.is_whole.m T.is_whole.F.kp T.is_whole.b .nil (pass_call rfl rfl rfl rfl) (pa_cons (pv 3) pa_nil)))) (pw_or1 (pt_not (pt_chain o_le o_le pe_int (pv 3) (pe_glob (by rfl) T.k_MOST_COINS.choose_spec ⟨_, rfl⟩)))))) (pss_one (p_raise T.x_BadTable rfl rfl rfl rfl rfl (by rfl))) pss_nil)
    (pss_cons (ps_asg (pv 3) (pg_sub (pe_ix ix_seq (pe_fld (pv 0) rfl) (pv 1) (fun _ _ => rfl)) (pv 2) set_list))
    (pss_one (ps_fld (pv 0) (pe_call (ok_settled T) (hr.mono (by decide)) (by rfl) T.settled.m T.settled.F.kp T.settled.b .nil (pass_call rfl rfl rfl rfl) (pa_cons (pe_fld (pv 0) rfl) (pa_cons (pe_fld (pv 0) rfl) pa_nil))) rfl))))))
theorem ok_house_charge_k10 (T : Facts K mg) : FnOk Pg w K mg base (L2.CX Pg w) 3 T.house_charge_k10.f T.house_charge_k10.fd ["self", "rent"] (sp_house_charge_k10 K T.c) := by
  refine fn_okR T.house_charge_k10.F sc_house_charge_k10 (fun vs H Q E h => lenr_house_charge_k10 h) (fun cdv A outer s H E hr => ⟨_, ?_, fun vs Q h => htr_house_charge_k10 T.hk h⟩)
  exact (pss_cons (ps_expr (pe_call (ok_need_rent T) (hr.mono (by decide)) (by rfl) T.need_rent.m T.need_rent.F.kp T.need_rent.b .nil (pass_call rfl rfl rfl rfl) (pa_cons (pv 1) pa_nil)))
    (pss_one (ps_fld (pv 0) (pv 1) rfl)))
theorem ok_law_refused_k10 (T : Facts K mg) : FnOk Pg w K mg base (L2.CX Pg w) 10 T.law_refused_k10.f T.law_refused_k10.fd ["_law_house", "_law_deed", "_law_kind"] (sp_law_refused_k10 K T.c) := by
  refine fn_okR T.law_refused_k10.F sc_law_refused_k10 (fun vs H Q E h => lenr_law_refused_k10 h) (fun cdv A outer s H E hr => ⟨_, ?_, fun vs Q h => htr_law_refused_k10 T.hk T.ex10 h⟩)
  exact (pss_cons (ps_set (i := 3) sc_law_refused_k10.nd rfl (by first | exact Or.inl rfl | exact Or.inr rfl) (pe_ix ix_seq (pe_lst (pa_cons (pe_un un_neg pe_int) (pa_cons (pe_callB c_len (by rfl) T.b_len bt_len (pa_cons (pe_meth0 (pv 0) T.hk.cl T.m_house_table (ok_house_table T) (hr.mono (by decide)) T.house_table.b .nil (pass_call rfl rfl rfl rfl)) pa_nil)) (pa_cons pe_bl (pa_cons pe_str (pa_cons pe_non (pa_cons pe_bl (pa_cons (pe_lst (pa_cons pe_int pa_nil)) (pa_cons pe_dnewK pa_nil))))))))) (pe_op o_mod (pe_op o_div (pv 2) pe_int) pe_int) (fun _ _ => rfl)))
    (pss_cons (ps_set (i := 4) sc_law_refused_k10.nd rfl (by first | exact Or.inl rfl | exact Or.inr rfl) (pe_ix ix_seq (pe_lst (pa_cons (pe_un un_neg pe_int) (pa_cons pe_int (pa_cons pe_bl (pa_cons pe_str (pa_cons pe_non (pa_cons pe_bl (pa_cons (pe_lst (pa_cons pe_int pa_nil)) (pa_cons pe_dnewK pa_nil))))))))) (pe_op o_mod (pe_op o_div (pv 2) pe_int) pe_int) (fun _ _ => rfl)))
    (pss_cons (ps_set (i := 5) sc_law_refused_k10.nd rfl (by first | exact Or.inl rfl | exact Or.inr rfl) (pe_ix ix_seq (pe_lst (pa_cons (pe_un un_neg pe_int) (pa_cons pe_int (pa_cons pe_bl (pa_cons pe_str (pa_cons pe_non (pa_cons pe_bl (pa_cons (pe_lst (pa_cons pe_int pa_nil)) (pa_cons pe_dnewK pa_nil))))))))) (pe_op o_mod (pe_op o_div (pv 2) pe_int) pe_int) (fun _ _ => rfl)))
    (pss_cons (p_try_many (tb := (fun W => (tIfS (tTest (tOp (rEq2 K) (tVar 1) (tC (.int 0)))) (tDrop (tMethT T.c.ho "wish" (sp_house_wish_k10 K T.c) (WE W) (tVar 0) (tCons (tVar 3) (tCons (tC .non) (tCons (tC .non) tNil))))) (tIfS (tTest (tOp (rEq2 K) (tVar 1) (tC (.int 1)))) (tDrop (tMethT T.c.ho "wish" (sp_house_wish_k10 K T.c) (WE W) (tVar 0) (tCons (tC (.int 0)) (tCons (tVar 3) (tCons (tC .non) tNil))))) (tIfS (tTest (tOp (rEq2 K) (tVar 1) (tC (.int 2)))) (tDrop (tMethT T.c.ho "wish" (sp_house_wish_k10 K T.c) (WE W) (tVar 0) (tCons (tC (.int 0)) (tCons (tC (.int 0)) (tCons (tVar 4) tNil))))) (tIfS (tTest (tOp (rEq2 K) (tVar 1) (tC (.int 3)))) (tDrop (tMethT T.c.ho "charge" (sp_house_charge_k10 K T.c) (WE W) (tVar 0) (tCons (tVar 5) tNil))) (tIfS (tTest (tOp (rEq2 K) (tVar 1) (tC (.int 4)))) (tDrop (tMethT T.c.ho "bill" (sp_house_bill_k10 K T.c) (WE W) (tVar 0) (tCons (tVar 3) tNil))) (tDrop (tMakeT T.c.ho (sp_house_init K T.c) (WE W) (tCons (tMethT T.c.ho "table" (sp_house_table K T.c) (WE W) (tVar 0) tNil) (tCons (tVar 5) tNil))))))))))) (l := [(.ref T.c.br, (fun a cls d => (tRet (tOrV (tOp rLtI (tVar 1) (tC (.int 2))) (tOp (rEq2 K) (tVar 1) (tC (.int 4))))))), (.ref T.c.bt, (fun a cls d => (tRet (tOp (rEq2 K) (tVar 1) (tC (.int 2)))))), (.ref T.c.be, (fun a cls d => (tRet (tOrV (tOp (rEq2 K) (tVar 1) (tC (.int 3))) (tOp (rEq2 K) (tVar 1) (tC (.int 5)))))))]) rfl rfl (takes_of rfl rfl rfl rfl) (fun W pn xe tk hpo => (pss_one (ps_if (pt_cmpR (o_eq hr.units) (pv 1) pe_int (nomark _)) (pss_one (ps_expr (pe_methT (pv 0) T.hk.cl T.m_house_wish_k10 (ok_house_wish_k10 T) (hr.mono (by decide)) T.house_wish_k10.b (fun σ => passAt tk σ) (pa_cons (pv 3) (pa_cons pe_non (pa_cons pe_non pa_nil)))))) (pss_one (ps_if (pt_cmpR (o_eq hr.units) (pv 1) pe_int (nomark _)) (pss_one (ps_expr (pe_methT (pv 0) T.hk.cl T.m_house_wish_k10 (ok_house_wish_k10 T) (hr.mono (by decide)) T.house_wish_k10.b (fun σ => passAt tk σ) (pa_cons pe_int (pa_cons (pv 3) (pa_cons pe_non pa_nil)))))) (pss_one (ps_if (pt_cmpR (o_eq hr.units) (pv 1) pe_int (nomark _)) (pss_one (ps_expr (pe_methT (pv 0) T.hk.cl T.m_house_wish_k10 (ok_house_wish_k10 T) (hr.mono (by decide)) T.house_wish_k10.b (fun σ => passAt tk σ) (pa_cons pe_int (pa_cons pe_int (pa_cons (pv 4) pa_nil)))))) (pss_one (ps_if (pt_cmpR (o_eq hr.units) (pv 1) pe_int (nomark _)) (pss_one (ps_expr (pe_methT (pv 0) T.hk.cl T.m_house_charge_k10 (ok_house_charge_k10 T) (hr.mono (by decide)) T.house_charge_k10.b (fun σ => passAt tk σ) (pa_cons (pv 5) pa_nil)))) (pss_one (ps_if (pt_cmpR (o_eq hr.units) (pv 1) pe_int (nomark _)) (pss_one (ps_expr (pe_methT (pv 0) T.hk.cl T.m_house_bill_k10 (ok_house_bill_k10 T) (hr.mono (by decide)) T.house_bill_k10.b (fun σ => passAt tk σ) (pa_cons (pv 3) pa_nil)))) (pss_one (ps_expr (pe_makeT T.H.mkr (ok_house_init T) (hr.mono (by decide)) (by rfl) T.H.g T.house_init.b (fun σ => passAt tk σ) (pa_cons (pe_meth0T (pv 0) T.hk.cl T.m_house_table (ok_house_table T) (hr.mono (by decide)) T.house_table.b (fun σ => passAt tk σ)) (pa_cons (pv 5) pa_nil)))))))))))))))) (HdsOk.cons (ts := (fun a cls d => (tRet (tOrV (tOp rLtI (tVar 1) (tC (.int 2))) (tOp (rEq2 K) (tVar 1) (tC (.int 4))))))) ⟨by rfl, by decide, .inl T.x_BadRooms.g⟩ (fun a oe cls d pn hz hf => (pss_one (ps_ret (pe_or (pe_cmpR o_lt (pv 1) pe_int (nomark _)) (pe_one (pe_cmpR (o_eq hr.units) (pv 1) pe_int (nomark _))))))) (HdsOk.cons (ts := (fun a cls d => (tRet (tOp (rEq2 K) (tVar 1) (tC (.int 2)))))) ⟨by rfl, by decide, .inl T.x_BadTable.g⟩ (fun a oe cls d pn hz hf => (pss_one (ps_ret (pe_cmpR (o_eq hr.units) (pv 1) pe_int (nomark _))))) (HdsOk.cons (ts := (fun a cls d => (tRet (tOrV (tOp (rEq2 K) (tVar 1) (tC (.int 3))) (tOp (rEq2 K) (tVar 1) (tC (.int 5))))))) ⟨by rfl, by decide, .inl T.x_BadRent.g⟩ (fun a oe cls d pn hz hf => (pss_one (ps_ret (pe_or (pe_cmpR (o_eq hr.units) (pv 1) pe_int (nomark _)) (pe_one (pe_cmpR (o_eq hr.units) (pv 1) pe_int (nomark _))))))) HdsOk.nil))))
    (pss_one (ps_ret pe_bl))))))
theorem ok_law_k10 (T : Facts K mg) : FnOk Pg w K mg base (L2.CX Pg w) 11 T.law_k10.f T.law_k10.fd ["_law_script"] (spOf K (S_law_k10 T.c)) := by
  refine fn_ok T.law_k10.F sc_law_k10 (fun ds r h => len_law_k10 h) (fun cdv A outer s H E hr => ⟨_, ?_, fun ds r h => ht_law_k10 T.hk h⟩)
  exact (pss_cons (ps_set (i := 1) sc_law_k10.nd rfl (by first | exact Or.inl rfl | exact Or.inr rfl) (pe_op o_add pe_int (pe_op o_mod (pe_call (ok_law_cell_at T) (hr.mono (by decide)) (by rfl) T.law_cell_at.m T.law_cell_at.F.kp T.law_cell_at.b .nil (pass_call rfl rfl rfl rfl) (pa_cons (pv 0) (pa_cons pe_int pa_nil))) pe_int)))
    (pss_cons (ps_if (pt_cmpR (o_eq hr.units) (pe_op o_mod (pe_op o_div (pe_call (ok_law_cell_at T) (hr.mono (by decide)) (by rfl) T.law_cell_at.m T.law_cell_at.F.kp T.law_cell_at.b .nil (pass_call rfl rfl rfl rfl) (pa_cons (pv 0) (pa_cons pe_int pa_nil))) pe_int) pe_int) pe_int (nomark _)) (pss_one (ps_set (i := 1) sc_law_k10.nd rfl (by first | exact Or.inl rfl | exact Or.inr rfl) (pe_op o_add (pv 1) pe_int))) pss_nil)
    (pss_cons (ps_set (i := 2) sc_law_k10.nd rfl (by first | exact Or.inl rfl | exact Or.inr rfl) (pe_call (ok_law_table_by T) (hr.mono (by decide)) (by rfl) T.law_table_by.m T.law_table_by.F.kp T.law_table_by.b .nil (pass_call rfl rfl rfl rfl) (pa_cons (pv 0) (pa_cons (pv 1) pa_nil))))
    (pss_cons (ps_set (i := 3) sc_law_k10.nd rfl (by first | exact Or.inl rfl | exact Or.inr rfl) (pe_op o_mod (pe_call (ok_law_cell_at T) (hr.mono (by decide)) (by rfl) T.law_cell_at.m T.law_cell_at.F.kp T.law_cell_at.b .nil (pass_call rfl rfl rfl rfl) (pa_cons (pv 0) (pa_cons pe_int pa_nil))) pe_int))
    (pss_cons (ps_setLc (i := 4) (own := [("_law_row", 12)]) rfl sc_law_k10.nd rfl rfl (sw_true rfl rfl rfl (by decide +kernel)) (pi_list (pv 2)) (blkOk_by (own := [("_law_row", 12)]) (N := N_law_k10) (sc := defScope s_law_k10) (by decide +kernel)) (fun _ _ _ _ _ => (pg_name (i := 12) sc_law_k10.nd rfl (by first | exact Or.inl rfl | exact Or.inr rfl))) (fun _ _ _ _ _ => pts_nil) (fun _ _ _ _ _ => (pe_callTy c_list (by rfl) T.b_list bt_list (pa_cons (pv 12) pa_nil))))
    (pss_cons (ps_set (i := 5) sc_law_k10.nd rfl (by first | exact Or.inl rfl | exact Or.inr rfl) (pe_make T.H.mkr (ok_house_init T) (hr.mono (by decide)) (by rfl) T.H.g T.house_init.b .nil (pass_call rfl rfl rfl rfl) (pa_cons (pv 4) (pa_cons (pv 3) pa_nil))))
    (pss_cons (ps_set (i := 6) sc_law_k10.nd rfl (by first | exact Or.inl rfl | exact Or.inr rfl) (pe_make T.H.mkr (ok_house_init T) (hr.mono (by decide)) (by rfl) T.H.g T.house_init.b .nil (pass_call rfl rfl rfl rfl) (pa_cons (pe_lc (own := [("_law_row", 12)]) rfl sc_law_k10.nd (pi_list (pv 2)) (blkOk_by (own := [("_law_row", 12)]) (N := N_law_k10) (sc := defScope s_law_k10) (by decide +kernel)) (fun _ _ _ _ _ => (pg_name (i := 12) sc_law_k10.nd rfl (by first | exact Or.inl rfl | exact Or.inr rfl))) (fun _ _ _ _ _ => pts_nil) (fun _ _ _ _ _ => (pe_callTy c_list (by rfl) T.b_list bt_list (pa_cons (pv 12) pa_nil)))) (pa_cons (pv 3) pa_nil))))
    (pss_cons (ps_set (i := 7) sc_law_k10.nd rfl (by first | exact Or.inl rfl | exact Or.inr rfl) (pe_ix ix_seq (pe_call (ok_law_asked_k10 T) (hr.mono (by decide)) (by rfl) T.law_asked_k10.m T.law_asked_k10.F.kp T.law_asked_k10.b .nil (pass_call rfl rfl rfl rfl) (pa_cons (pv 6) pa_nil)) pe_int (fun _ _ => rfl)))
    (pss_cons (ps_asg (pe_un un_neg pe_int) (pg_sub (pe_ix ix_seq (pv 4) pe_int (fun _ _ => rfl)) pe_int set_list))
    (pss_cons (ps_expr (pe_bm PySem.F.plainAttrs_list PySem.F.slot_list_append PySem.F.type_list_append mt_append (pv 4) (pa_cons (pe_lst pa_nil) pa_nil)))
    (pss_cons (ps_set (i := 8) sc_law_k10.nd rfl (by first | exact Or.inl rfl | exact Or.inr rfl) (pe_lst pa_nil))
    (pss_cons (ps_for (passes_of rfl) rfl (pi_list (pe_call (ok_law_deeds T) (hr.mono (by decide)) (by rfl) T.law_deeds.m T.law_deeds.F.kp T.law_deeds.b .nil (pass_call rfl rfl rfl rfl) (pa_cons (pv 0) (pa_cons (pv 1) pa_nil)))) (pg_name (i := 9) sc_law_k10.nd rfl (by first | exact Or.inl rfl | exact Or.inr rfl)) (pss_cons (ps_expr (pe_bm PySem.F.plainAttrs_list PySem.F.slot_list_append PySem.F.type_list_append mt_append (pv 8) (pa_cons (pe_call (ok_law_asked_k10 T) (hr.mono (by decide)) (by rfl) T.law_asked_k10.m T.law_asked_k10.F.kp T.law_asked_k10.b .nil (pass_call rfl rfl rfl rfl) (pa_cons (pv 5) pa_nil)) pa_nil)))
    (pss_cons (ps_if (pt_cmpR (o_eq hr.units) (pe_op o_mod (pv 9) pe_int) pe_int (nomark _)) (pss_one (ps_if (pt_not (pt_val (pe_call (ok_law_refused_k10 T) (hr.mono (by decide)) (by rfl) T.law_refused_k10.m T.law_refused_k10.F.kp T.law_refused_k10.b .nil (pass_call rfl rfl rfl rfl) (pa_cons (pv 5) (pa_cons (pe_op o_mod (pe_op o_div (pv 9) pe_int) pe_int) (pa_cons (pe_op o_div (pv 9) pe_int) pa_nil)))))) (pss_one (ps_ret pe_bl)) pss_nil)) (pss_one (ps_if (pt_cmpR (o_eq hr.units) (pe_op o_mod (pv 9) pe_int) pe_int (nomark _)) (pss_cons (ps_set (i := 3) sc_law_k10.nd rfl (by first | exact Or.inl rfl | exact Or.inr rfl) (pe_op o_mod (pe_op o_div (pv 9) pe_int) pe_int))
    (pss_one (ps_if (pt_cmpR o_notN (pe_meth (pv 5) T.hk.cl T.m_house_charge_k10 (ok_house_charge_k10 T) (hr.mono (by decide)) T.house_charge_k10.b .nil (pass_call rfl rfl rfl rfl) (pa_cons (pv 3) pa_nil)) pe_non (nomark _)) (pss_one (ps_ret pe_bl)) pss_nil))) (pss_cons (ps_set (i := 10) sc_law_k10.nd rfl (by first | exact Or.inl rfl | exact Or.inr rfl) (pe_op o_mod (pe_op o_div (pv 9) pe_int) (pv 1)))
    (pss_cons (ps_set (i := 11) sc_law_k10.nd rfl (by first | exact Or.inl rfl | exact Or.inr rfl) (pe_op o_mod (pe_op o_div (pv 9) pe_int) (pv 1)))
    (pss_cons (ps_asg (pe_call (ok_law_coins_by T) (hr.mono (by decide)) (by rfl) T.law_coins_by.m T.law_coins_by.F.kp T.law_coins_by.b .nil (pass_call rfl rfl rfl rfl) (pa_cons (pe_op o_div (pv 9) pe_int) (pa_cons (pe_op o_add (pe_op o_mod (pv 9) pe_int) (pe_op o_mul pe_int (pe_callTy c_int1 (by rfl) T.b_int bt_int (pa_cons (pe_cmpR (o_eq hr.units) (pe_op o_mod (pv 9) pe_int) pe_int (nomark _)) pa_nil)))) pa_nil))) (pg_sub (pe_ix ix_seq (pv 2) (pv 10) (fun _ _ => rfl)) (pv 11) set_list))
    (pss_one (ps_if (pt_cmpR o_notN (pe_meth (pv 5) T.hk.cl T.m_house_wish_k10 (ok_house_wish_k10 T) (hr.mono (by decide)) T.house_wish_k10.b .nil (pass_call rfl rfl rfl rfl) (pa_cons (pv 10) (pa_cons (pv 11) (pa_cons (pe_ix ix_seq (pe_ix ix_seq (pv 2) (pv 10) (fun _ _ => rfl)) (pv 11) (fun _ _ => rfl)) pa_nil)))) pe_non (nomark _)) (pss_one (ps_ret pe_bl)) pss_nil))))))))
    (pss_one (ps_if (pt_not (pt_val (pe_call (ok_law_held T) (hr.mono (by decide)) (by rfl) T.law_held.m T.law_held.F.kp T.law_held.b .nil (pass_call rfl rfl rfl rfl) (pa_cons (pv 5) (pa_cons (pv 2) (pa_cons (pv 3) (pa_cons (pe_ix ix_seq (pe_ix ix_seq (pe_ix ix_seq (pe_ix ix_seq (pv 8) (pe_un un_neg pe_int) (fun _ _ => rfl)) pe_int (fun _ _ => rfl)) pe_int (fun _ _ => rfl)) pe_int (fun _ _ => rfl)) (pa_cons (pe_op o_mod (pe_op o_div (pv 9) pe_int) (pv 1)) pa_nil)))))))) (pss_one (ps_ret pe_bl)) pss_nil)))))
    (pss_one (ps_ret (pe_and (pe_cmpR (o_eq hr.units) (pe_ix ix_seq (pe_call (ok_law_asked_k10 T) (hr.mono (by decide)) (by rfl) T.law_asked_k10.m T.law_asked_k10.F.kp T.law_asked_k10.b .nil (pass_call rfl rfl rfl rfl) (pa_cons (pv 6) pa_nil)) pe_int (fun _ _ => rfl)) (pv 7) (nomark _)) (pe_one (pe_callB (c_all rfl) (by rfl) T.b_all bt_all (pa_cons (pe_lc (own := [("_law_told", 13), ("_law_kept", 14)]) rfl sc_law_k10.nd (pi_list (pv 8)) (blkOk_by (own := [("_law_told", 13), ("_law_kept", 14)]) (N := N_law_k10) (sc := defScope s_law_k10) (by decide +kernel)) (fun _ _ _ _ _ => (pg_tup rfl (pgs_cons (pg_name (i := 13) sc_law_k10.nd rfl (by first | exact Or.inl rfl | exact Or.inr rfl)) (pgs_cons (pg_name (i := 14) sc_law_k10.nd rfl (by first | exact Or.inl rfl | exact Or.inr rfl)) pgs_nil)))) (fun _ _ _ _ _ => pts_nil) (fun _ _ _ _ _ => (pe_cmpR (o_eq hr.units) (pv 13) (pv 14) (nomark _)))) pa_nil))))))))))))))))))
end
theorem all_mk {l : PySem.W.OpenLaw} {w : World} {K : PySem.W.Frag} {h : Heap} {mg : Str → Option Value} {fa : Addr} (X : K.In h) (G : h.Ns mainGlobals mg) (hfa : mg "law" = some (.ref fa))
    (z_all : PySem.W.nsIn K mainGlobals "all" = some none)
    (z_bool : PySem.W.nsIn K mainGlobals "bool" = some none)
    (z_int : PySem.W.nsIn K mainGlobals "int" = some none)
    (z_isinstance : PySem.W.nsIn K mainGlobals "isinstance" = some none)
    (z_len : PySem.W.nsIn K mainGlobals "len" = some none)
    (z_list : PySem.W.nsIn K mainGlobals "list" = some none)
    (z_max : PySem.W.nsIn K mainGlobals "max" = some none)
    (z_range : PySem.W.nsIn K mainGlobals "range" = some none)
    (z_sum : PySem.W.nsIn K mainGlobals "sum" = some none)
    (z_tuple : PySem.W.nsIn K mainGlobals "tuple" = some none)
    {tk_MOST_COINS : Tok} (c_MOST_COINS : PySem.W.nsIn K mainGlobals "MOST_COINS" = some (some (.int 1000000 tk_MOST_COINS)))
    {tk_MOST_LODGERS : Tok} (c_MOST_LODGERS : PySem.W.nsIn K mainGlobals "MOST_LODGERS" = some (some (.int 8 tk_MOST_LODGERS)))
    {tk_MOST_RENT : Tok} (c_MOST_RENT : PySem.W.nsIn K mainGlobals "MOST_RENT" = some (some (.int 1000000000 tk_MOST_RENT)))
    {C_BadRent : Addr} (g_BadRent : PySem.W.nsIn K mainGlobals "BadRent" = some (some (.ref C_BadRent))) (k_BadRent : PySem.W.keepIn K (.ref C_BadRent) = true) (e_BadRent : PySem.W.excIn K C_BadRent [.type "ValueError", .type "Exception", .type "BaseException", .type "object"] "ValueError.__new__" = true) (s_BadRent : PySem.W.subIn K (.ref C_BadRent) (.type "BaseException") = some true) (t_BadRent : PySem.W.typeIn K (.ref C_BadRent) = some (.type "type"))
    {C_BadRooms : Addr} (g_BadRooms : PySem.W.nsIn K mainGlobals "BadRooms" = some (some (.ref C_BadRooms))) (k_BadRooms : PySem.W.keepIn K (.ref C_BadRooms) = true) (e_BadRooms : PySem.W.excIn K C_BadRooms [.type "ValueError", .type "Exception", .type "BaseException", .type "object"] "ValueError.__new__" = true) (s_BadRooms : PySem.W.subIn K (.ref C_BadRooms) (.type "BaseException") = some true) (t_BadRooms : PySem.W.typeIn K (.ref C_BadRooms) = some (.type "type"))
    {C_BadTable : Addr} (g_BadTable : PySem.W.nsIn K mainGlobals "BadTable" = some (some (.ref C_BadTable))) (k_BadTable : PySem.W.keepIn K (.ref C_BadTable) = true) (e_BadTable : PySem.W.excIn K C_BadTable [.type "ValueError", .type "Exception", .type "BaseException", .type "object"] "ValueError.__new__" = true) (s_BadTable : PySem.W.subIn K (.ref C_BadTable) (.type "BaseException") = some true) (t_BadTable : PySem.W.typeIn K (.ref C_BadTable) = some (.type "type"))
    {C_NotBest : Addr} (g_NotBest : PySem.W.nsIn K mainGlobals "NotBest" = some (some (.ref C_NotBest))) (k_NotBest : PySem.W.keepIn K (.ref C_NotBest) = true) (e_NotBest : PySem.W.excIn K C_NotBest [.type "ValueError", .type "Exception", .type "BaseException", .type "object"] "ValueError.__new__" = true) (s_NotBest : PySem.W.subIn K (.ref C_NotBest) (.type "BaseException") = some true) (t_NotBest : PySem.W.typeIn K (.ref C_NotBest) = some (.type "type"))
    {f_law_cell_at : Addr} {oc_law_cell_at : Value} {od_law_cell_at an_law_cell_at : Option Addr} {sl_law_cell_at : Array (Option Value)} {kV_law_cell_at dc_law_cell_at pm_law_cell_at cd_law_cell_at ct_law_cell_at : Value} (a_law_cell_at : PySem.W.nsIn K mainGlobals "_law_cell_at" = some (some (.ref f_law_cell_at))) (l_law_cell_at : K.lookup f_law_cell_at = some ⟨oc_law_cell_at, od_law_cell_at, .func (PySem.W.fnOf "_law_cell_at" "_law_cell_at" (defArgs s_law_cell_at) (defBody s_law_cell_at) (defScope s_law_cell_at) .none kV_law_cell_at dc_law_cell_at pm_law_cell_at an_law_cell_at cd_law_cell_at ct_law_cell_at), sl_law_cell_at⟩) (d_law_cell_at : PySem.W.codeIn K cd_law_cell_at "_law_cell_at" = true) (p_law_cell_at : PySem.W.keepIn K (.ref f_law_cell_at) = true)
    {f_law_coins_by : Addr} {oc_law_coins_by : Value} {od_law_coins_by an_law_coins_by : Option Addr} {sl_law_coins_by : Array (Option Value)} {kV_law_coins_by dc_law_coins_by pm_law_coins_by cd_law_coins_by ct_law_coins_by : Value} (a_law_coins_by : PySem.W.nsIn K mainGlobals "_law_coins_by" = some (some (.ref f_law_coins_by))) (l_law_coins_by : K.lookup f_law_coins_by = some ⟨oc_law_coins_by, od_law_coins_by, .func (PySem.W.fnOf "_law_coins_by" "_law_coins_by" (defArgs s_law_coins_by) (defBody s_law_coins_by) (defScope s_law_coins_by) .none kV_law_coins_by dc_law_coins_by pm_law_coins_by an_law_coins_by cd_law_coins_by ct_law_coins_by), sl_law_coins_by⟩) (d_law_coins_by : PySem.W.codeIn K cd_law_coins_by "_law_coins_by" = true) (p_law_coins_by : PySem.W.keepIn K (.ref f_law_coins_by) = true)
    {f_law_table_by : Addr} {oc_law_table_by : Value} {od_law_table_by an_law_table_by : Option Addr} {sl_law_table_by : Array (Option Value)} {kV_law_table_by dc_law_table_by pm_law_table_by cd_law_table_by ct_law_table_by : Value} (a_law_table_by : PySem.W.nsIn K mainGlobals "_law_table_by" = some (some (.ref f_law_table_by))) (l_law_table_by : K.lookup f_law_table_by = some ⟨oc_law_table_by, od_law_table_by, .func (PySem.W.fnOf "_law_table_by" "_law_table_by" (defArgs s_law_table_by) (defBody s_law_table_by) (defScope s_law_table_by) .none kV_law_table_by dc_law_table_by pm_law_table_by an_law_table_by cd_law_table_by ct_law_table_by), sl_law_table_by⟩) (d_law_table_by : PySem.W.codeIn K cd_law_table_by "_law_table_by" = true) (p_law_table_by : PySem.W.keepIn K (.ref f_law_table_by) = true)
    {f_is_whole : Addr} {oc_is_whole : Value} {od_is_whole an_is_whole : Option Addr} {sl_is_whole : Array (Option Value)} {kV_is_whole dc_is_whole pm_is_whole cd_is_whole ct_is_whole : Value} (a_is_whole : PySem.W.nsIn K mainGlobals "is_whole" = some (some (.ref f_is_whole))) (l_is_whole : K.lookup f_is_whole = some ⟨oc_is_whole, od_is_whole, .func (PySem.W.fnOf "is_whole" "is_whole" (defArgs s_is_whole) (defBody s_is_whole) (defScope s_is_whole) .none kV_is_whole dc_is_whole pm_is_whole an_is_whole cd_is_whole ct_is_whole), sl_is_whole⟩) (d_is_whole : PySem.W.codeIn K cd_is_whole "is_whole" = true) (p_is_whole : PySem.W.keepIn K (.ref f_is_whole) = true)
    {f_is_row : Addr} {oc_is_row : Value} {od_is_row an_is_row : Option Addr} {sl_is_row : Array (Option Value)} {kV_is_row dc_is_row pm_is_row cd_is_row ct_is_row : Value} (a_is_row : PySem.W.nsIn K mainGlobals "is_row" = some (some (.ref f_is_row))) (l_is_row : K.lookup f_is_row = some ⟨oc_is_row, od_is_row, .func (PySem.W.fnOf "is_row" "is_row" (defArgs s_is_row) (defBody s_is_row) (defScope s_is_row) .none kV_is_row dc_is_row pm_is_row an_is_row cd_is_row ct_is_row), sl_is_row⟩) (d_is_row : PySem.W.codeIn K cd_is_row "is_row" = true) (p_is_row : PySem.W.keepIn K (.ref f_is_row) = true)
    {f_need_table : Addr} {oc_need_table : Value} {od_need_table an_need_table : Option Addr} {sl_need_table : Array (Option Value)} {kV_need_table dc_need_table pm_need_table cd_need_table ct_need_table : Value} (a_need_table : PySem.W.nsIn K mainGlobals "need_table" = some (some (.ref f_need_table))) (l_need_table : K.lookup f_need_table = some ⟨oc_need_table, od_need_table, .func (PySem.W.fnOf "need_table" "need_table" (defArgs s_need_table) (defBody s_need_table) (defScope s_need_table) .none kV_need_table dc_need_table pm_need_table an_need_table cd_need_table ct_need_table), sl_need_table⟩) (d_need_table : PySem.W.codeIn K cd_need_table "need_table" = true) (p_need_table : PySem.W.keepIn K (.ref f_need_table) = true)
    {f_need_rent : Addr} {oc_need_rent : Value} {od_need_rent an_need_rent : Option Addr} {sl_need_rent : Array (Option Value)} {kV_need_rent dc_need_rent pm_need_rent cd_need_rent ct_need_rent : Value} (a_need_rent : PySem.W.nsIn K mainGlobals "need_rent" = some (some (.ref f_need_rent))) (l_need_rent : K.lookup f_need_rent = some ⟨oc_need_rent, od_need_rent, .func (PySem.W.fnOf "need_rent" "need_rent" (defArgs s_need_rent) (defBody s_need_rent) (defScope s_need_rent) .none kV_need_rent dc_need_rent pm_need_rent an_need_rent cd_need_rent ct_need_rent), sl_need_rent⟩) (d_need_rent : PySem.W.codeIn K cd_need_rent "need_rent" = true) (p_need_rent : PySem.W.keepIn K (.ref f_need_rent) = true)
    {f_are_places : Addr} {oc_are_places : Value} {od_are_places an_are_places : Option Addr} {sl_are_places : Array (Option Value)} {kV_are_places dc_are_places pm_are_places cd_are_places ct_are_places : Value} (a_are_places : PySem.W.nsIn K mainGlobals "are_places" = some (some (.ref f_are_places))) (l_are_places : K.lookup f_are_places = some ⟨oc_are_places, od_are_places, .func (PySem.W.fnOf "are_places" "are_places" (defArgs s_are_places) (defBody s_are_places) (defScope s_are_places) .none kV_are_places dc_are_places pm_are_places an_are_places cd_are_places ct_are_places), sl_are_places⟩) (d_are_places : PySem.W.codeIn K cd_are_places "are_places" = true) (p_are_places : PySem.W.keepIn K (.ref f_are_places) = true)
    {f_need_rooms : Addr} {oc_need_rooms : Value} {od_need_rooms an_need_rooms : Option Addr} {sl_need_rooms : Array (Option Value)} {kV_need_rooms dc_need_rooms pm_need_rooms cd_need_rooms ct_need_rooms : Value} (a_need_rooms : PySem.W.nsIn K mainGlobals "need_rooms" = some (some (.ref f_need_rooms))) (l_need_rooms : K.lookup f_need_rooms = some ⟨oc_need_rooms, od_need_rooms, .func (PySem.W.fnOf "need_rooms" "need_rooms" (defArgs s_need_rooms) (defBody s_need_rooms) (defScope s_need_rooms) .none kV_need_rooms dc_need_rooms pm_need_rooms an_need_rooms cd_need_rooms ct_need_rooms), sl_need_rooms⟩) (d_need_rooms : PySem.W.codeIn K cd_need_rooms "need_rooms" = true) (p_need_rooms : PySem.W.keepIn K (.ref f_need_rooms) = true)
    {f_step : Addr} {oc_step : Value} {od_step an_step : Option Addr} {sl_step : Array (Option Value)} {kV_step dc_step pm_step cd_step ct_step : Value} (a_step : PySem.W.nsIn K mainGlobals "step" = some (some (.ref f_step))) (l_step : K.lookup f_step = some ⟨oc_step, od_step, .func (PySem.W.fnOf "step" "step" (defArgs s_step) (defBody s_step) (defScope s_step) .none kV_step dc_step pm_step an_step cd_step ct_step), sl_step⟩) (d_step : PySem.W.codeIn K cd_step "step" = true) (p_step : PySem.W.keepIn K (.ref f_step) = true)
    {f_first_ways : Addr} {oc_first_ways : Value} {od_first_ways an_first_ways : Option Addr} {sl_first_ways : Array (Option Value)} {kV_first_ways dc_first_ways pm_first_ways cd_first_ways ct_first_ways : Value} (a_first_ways : PySem.W.nsIn K mainGlobals "first_ways" = some (some (.ref f_first_ways))) (l_first_ways : K.lookup f_first_ways = some ⟨oc_first_ways, od_first_ways, .func (PySem.W.fnOf "first_ways" "first_ways" (defArgs s_first_ways) (defBody s_first_ways) (defScope s_first_ways) .none kV_first_ways dc_first_ways pm_first_ways an_first_ways cd_first_ways ct_first_ways), sl_first_ways⟩) (d_first_ways : PySem.W.codeIn K cd_first_ways "first_ways" = true) (p_first_ways : PySem.W.keepIn K (.ref f_first_ways) = true)
    {f_longer_row : Addr} {oc_longer_row : Value} {od_longer_row an_longer_row : Option Addr} {sl_longer_row : Array (Option Value)} {kV_longer_row dc_longer_row pm_longer_row cd_longer_row ct_longer_row : Value} (a_longer_row : PySem.W.nsIn K mainGlobals "longer_row" = some (some (.ref f_longer_row))) (l_longer_row : K.lookup f_longer_row = some ⟨oc_longer_row, od_longer_row, .func (PySem.W.fnOf "longer_row" "longer_row" (defArgs s_longer_row) (defBody s_longer_row) (defScope s_longer_row) .none kV_longer_row dc_longer_row pm_longer_row an_longer_row cd_longer_row ct_longer_row), sl_longer_row⟩) (d_longer_row : PySem.W.codeIn K cd_longer_row "longer_row" = true) (p_longer_row : PySem.W.keepIn K (.ref f_longer_row) = true)
    {f_longer : Addr} {oc_longer : Value} {od_longer an_longer : Option Addr} {sl_longer : Array (Option Value)} {kV_longer dc_longer pm_longer cd_longer ct_longer : Value} (a_longer : PySem.W.nsIn K mainGlobals "longer" = some (some (.ref f_longer))) (l_longer : K.lookup f_longer = some ⟨oc_longer, od_longer, .func (PySem.W.fnOf "longer" "longer" (defArgs s_longer) (defBody s_longer) (defScope s_longer) .none kV_longer dc_longer pm_longer an_longer cd_longer ct_longer), sl_longer⟩) (d_longer : PySem.W.codeIn K cd_longer "longer" = true) (p_longer : PySem.W.keepIn K (.ref f_longer) = true)
    {f_ring_in : Addr} {oc_ring_in : Value} {od_ring_in an_ring_in : Option Addr} {sl_ring_in : Array (Option Value)} {kV_ring_in dc_ring_in pm_ring_in cd_ring_in ct_ring_in : Value} (a_ring_in : PySem.W.nsIn K mainGlobals "ring_in" = some (some (.ref f_ring_in))) (l_ring_in : K.lookup f_ring_in = some ⟨oc_ring_in, od_ring_in, .func (PySem.W.fnOf "ring_in" "ring_in" (defArgs s_ring_in) (defBody s_ring_in) (defScope s_ring_in) .none kV_ring_in dc_ring_in pm_ring_in an_ring_in cd_ring_in ct_ring_in), sl_ring_in⟩) (d_ring_in : PySem.W.codeIn K cd_ring_in "ring_in" = true) (p_ring_in : PySem.W.keepIn K (.ref f_ring_in) = true)
    {f_best_ways : Addr} {oc_best_ways : Value} {od_best_ways an_best_ways : Option Addr} {sl_best_ways : Array (Option Value)} {kV_best_ways dc_best_ways pm_best_ways cd_best_ways ct_best_ways : Value} (a_best_ways : PySem.W.nsIn K mainGlobals "best_ways" = some (some (.ref f_best_ways))) (l_best_ways : K.lookup f_best_ways = some ⟨oc_best_ways, od_best_ways, .func (PySem.W.fnOf "best_ways" "best_ways" (defArgs s_best_ways) (defBody s_best_ways) (defScope s_best_ways) .none kV_best_ways dc_best_ways pm_best_ways an_best_ways cd_best_ways ct_best_ways), sl_best_ways⟩) (d_best_ways : PySem.W.codeIn K cd_best_ways "best_ways" = true) (p_best_ways : PySem.W.keepIn K (.ref f_best_ways) = true)
    {f_turned : Addr} {oc_turned : Value} {od_turned an_turned : Option Addr} {sl_turned : Array (Option Value)} {kV_turned dc_turned pm_turned cd_turned ct_turned : Value} (a_turned : PySem.W.nsIn K mainGlobals "turned" = some (some (.ref f_turned))) (l_turned : K.lookup f_turned = some ⟨oc_turned, od_turned, .func (PySem.W.fnOf "turned" "turned" (defArgs s_turned) (defBody s_turned) (defScope s_turned) .none kV_turned dc_turned pm_turned an_turned cd_turned ct_turned), sl_turned⟩) (d_turned : PySem.W.codeIn K cd_turned "turned" = true) (p_turned : PySem.W.keepIn K (.ref f_turned) = true)
    {f_settled : Addr} {oc_settled : Value} {od_settled an_settled : Option Addr} {sl_settled : Array (Option Value)} {kV_settled dc_settled pm_settled cd_settled ct_settled : Value} (a_settled : PySem.W.nsIn K mainGlobals "settled" = some (some (.ref f_settled))) (l_settled : K.lookup f_settled = some ⟨oc_settled, od_settled, .func (PySem.W.fnOf "settled" "settled" (defArgs s_settled) (defBody s_settled) (defScope s_settled) .none kV_settled dc_settled pm_settled an_settled cd_settled ct_settled), sl_settled⟩) (d_settled : PySem.W.codeIn K cd_settled "settled" = true) (p_settled : PySem.W.keepIn K (.ref f_settled) = true)
    {f_best : Addr} {oc_best : Value} {od_best an_best : Option Addr} {sl_best : Array (Option Value)} {kV_best dc_best pm_best cd_best ct_best : Value} (a_best : PySem.W.nsIn K mainGlobals "best" = some (some (.ref f_best))) (l_best : K.lookup f_best = some ⟨oc_best, od_best, .func (PySem.W.fnOf "best" "best" (defArgs s_best) (defBody s_best) (defScope s_best) .none kV_best dc_best pm_best an_best cd_best ct_best), sl_best⟩) (d_best : PySem.W.codeIn K cd_best "best" = true) (p_best : PySem.W.keepIn K (.ref f_best) = true)
    {f_law_deeds : Addr} {oc_law_deeds : Value} {od_law_deeds an_law_deeds : Option Addr} {sl_law_deeds : Array (Option Value)} {kV_law_deeds dc_law_deeds pm_law_deeds cd_law_deeds ct_law_deeds : Value} (a_law_deeds : PySem.W.nsIn K mainGlobals "_law_deeds" = some (some (.ref f_law_deeds))) (l_law_deeds : K.lookup f_law_deeds = some ⟨oc_law_deeds, od_law_deeds, .func (PySem.W.fnOf "_law_deeds" "_law_deeds" (defArgs s_law_deeds) (defBody s_law_deeds) (defScope s_law_deeds) .none kV_law_deeds dc_law_deeds pm_law_deeds an_law_deeds cd_law_deeds ct_law_deeds), sl_law_deeds⟩) (d_law_deeds : PySem.W.codeIn K cd_law_deeds "_law_deeds" = true) (p_law_deeds : PySem.W.keepIn K (.ref f_law_deeds) = true)
    {f_need_ways : Addr} {oc_need_ways : Value} {od_need_ways an_need_ways : Option Addr} {sl_need_ways : Array (Option Value)} {kV_need_ways dc_need_ways pm_need_ways cd_need_ways ct_need_ways : Value} (a_need_ways : PySem.W.nsIn K mainGlobals "need_ways" = some (some (.ref f_need_ways))) (l_need_ways : K.lookup f_need_ways = some ⟨oc_need_ways, od_need_ways, .func (PySem.W.fnOf "need_ways" "need_ways" (defArgs s_need_ways) (defBody s_need_ways) (defScope s_need_ways) .none kV_need_ways dc_need_ways pm_need_ways an_need_ways cd_need_ways ct_need_ways), sl_need_ways⟩) (d_need_ways : PySem.W.codeIn K cd_need_ways "need_ways" = true) (p_need_ways : PySem.W.keepIn K (.ref f_need_ways) = true)
    {f_price_of : Addr} {oc_price_of : Value} {od_price_of an_price_of : Option Addr} {sl_price_of : Array (Option Value)} {kV_price_of dc_price_of pm_price_of cd_price_of ct_price_of : Value} (a_price_of : PySem.W.nsIn K mainGlobals "price_of" = some (some (.ref f_price_of))) (l_price_of : K.lookup f_price_of = some ⟨oc_price_of, od_price_of, .func (PySem.W.fnOf "price_of" "price_of" (defArgs s_price_of) (defBody s_price_of) (defScope s_price_of) .none kV_price_of dc_price_of pm_price_of an_price_of cd_price_of ct_price_of), sl_price_of⟩) (d_price_of : PySem.W.codeIn K cd_price_of "price_of" = true) (p_price_of : PySem.W.keepIn K (.ref f_price_of) = true)
    {f_prices : Addr} {oc_prices : Value} {od_prices an_prices : Option Addr} {sl_prices : Array (Option Value)} {kV_prices dc_prices pm_prices cd_prices ct_prices : Value} (a_prices : PySem.W.nsIn K mainGlobals "prices" = some (some (.ref f_prices))) (l_prices : K.lookup f_prices = some ⟨oc_prices, od_prices, .func (PySem.W.fnOf "prices" "prices" (defArgs s_prices) (defBody s_prices) (defScope s_prices) .none kV_prices dc_prices pm_prices an_prices cd_prices ct_prices), sl_prices⟩) (d_prices : PySem.W.codeIn K cd_prices "prices" = true) (p_prices : PySem.W.keepIn K (.ref f_prices) = true)
    {f_parts_of : Addr} {oc_parts_of : Value} {od_parts_of an_parts_of : Option Addr} {sl_parts_of : Array (Option Value)} {kV_parts_of dc_parts_of pm_parts_of cd_parts_of ct_parts_of : Value} (a_parts_of : PySem.W.nsIn K mainGlobals "parts_of" = some (some (.ref f_parts_of))) (l_parts_of : K.lookup f_parts_of = some ⟨oc_parts_of, od_parts_of, .func (PySem.W.fnOf "parts_of" "parts_of" (defArgs s_parts_of) (defBody s_parts_of) (defScope s_parts_of) .none kV_parts_of dc_parts_of pm_parts_of an_parts_of cd_parts_of ct_parts_of), sl_parts_of⟩) (d_parts_of : PySem.W.codeIn K cd_parts_of "parts_of" = true) (p_parts_of : PySem.W.keepIn K (.ref f_parts_of) = true)
    {f_law_asked_k10 : Addr} {oc_law_asked_k10 : Value} {od_law_asked_k10 an_law_asked_k10 : Option Addr} {sl_law_asked_k10 : Array (Option Value)} {kV_law_asked_k10 dc_law_asked_k10 pm_law_asked_k10 cd_law_asked_k10 ct_law_asked_k10 : Value} (a_law_asked_k10 : PySem.W.nsIn K mainGlobals "_law_asked" = some (some (.ref f_law_asked_k10))) (l_law_asked_k10 : K.lookup f_law_asked_k10 = some ⟨oc_law_asked_k10, od_law_asked_k10, .func (PySem.W.fnOf "_law_asked" "_law_asked" (defArgs s_law_asked_k10) (defBody s_law_asked_k10) (defScope s_law_asked_k10) .none kV_law_asked_k10 dc_law_asked_k10 pm_law_asked_k10 an_law_asked_k10 cd_law_asked_k10 ct_law_asked_k10), sl_law_asked_k10⟩) (d_law_asked_k10 : PySem.W.codeIn K cd_law_asked_k10 "_law_asked" = true) (p_law_asked_k10 : PySem.W.keepIn K (.ref f_law_asked_k10) = true)
    {f_need_place : Addr} {oc_need_place : Value} {od_need_place an_need_place : Option Addr} {sl_need_place : Array (Option Value)} {kV_need_place dc_need_place pm_need_place cd_need_place ct_need_place : Value} (a_need_place : PySem.W.nsIn K mainGlobals "need_place" = some (some (.ref f_need_place))) (l_need_place : K.lookup f_need_place = some ⟨oc_need_place, od_need_place, .func (PySem.W.fnOf "need_place" "need_place" (defArgs s_need_place) (defBody s_need_place) (defScope s_need_place) .none kV_need_place dc_need_place pm_need_place an_need_place cd_need_place ct_need_place), sl_need_place⟩) (d_need_place : PySem.W.codeIn K cd_need_place "need_place" = true) (p_need_place : PySem.W.keepIn K (.ref f_need_place) = true)
    {f_law_whole : Addr} {oc_law_whole : Value} {od_law_whole an_law_whole : Option Addr} {sl_law_whole : Array (Option Value)} {kV_law_whole dc_law_whole pm_law_whole cd_law_whole ct_law_whole : Value} (a_law_whole : PySem.W.nsIn K mainGlobals "_law_whole" = some (some (.ref f_law_whole))) (l_law_whole : K.lookup f_law_whole = some ⟨oc_law_whole, od_law_whole, .func (PySem.W.fnOf "_law_whole" "_law_whole" (defArgs s_law_whole) (defBody s_law_whole) (defScope s_law_whole) .none kV_law_whole dc_law_whole pm_law_whole an_law_whole cd_law_whole ct_law_whole), sl_law_whole⟩) (d_law_whole : PySem.W.codeIn K cd_law_whole "_law_whole" = true) (p_law_whole : PySem.W.keepIn K (.ref f_law_whole) = true)
    {f_law_places : Addr} {oc_law_places : Value} {od_law_places an_law_places : Option Addr} {sl_law_places : Array (Option Value)} {kV_law_places dc_law_places pm_law_places cd_law_places ct_law_places : Value} (a_law_places : PySem.W.nsIn K mainGlobals "_law_places" = some (some (.ref f_law_places))) (l_law_places : K.lookup f_law_places = some ⟨oc_law_places, od_law_places, .func (PySem.W.fnOf "_law_places" "_law_places" (defArgs s_law_places) (defBody s_law_places) (defScope s_law_places) .none kV_law_places dc_law_places pm_law_places an_law_places cd_law_places ct_law_places), sl_law_places⟩) (d_law_places : PySem.W.codeIn K cd_law_places "_law_places" = true) (p_law_places : PySem.W.keepIn K (.ref f_law_places) = true)
    {f_law_fair : Addr} {oc_law_fair : Value} {od_law_fair an_law_fair : Option Addr} {sl_law_fair : Array (Option Value)} {kV_law_fair dc_law_fair pm_law_fair cd_law_fair ct_law_fair : Value} (a_law_fair : PySem.W.nsIn K mainGlobals "_law_fair" = some (some (.ref f_law_fair))) (l_law_fair : K.lookup f_law_fair = some ⟨oc_law_fair, od_law_fair, .func (PySem.W.fnOf "_law_fair" "_law_fair" (defArgs s_law_fair) (defBody s_law_fair) (defScope s_law_fair) .none kV_law_fair dc_law_fair pm_law_fair an_law_fair cd_law_fair ct_law_fair), sl_law_fair⟩) (d_law_fair : PySem.W.codeIn K cd_law_fair "_law_fair" = true) (p_law_fair : PySem.W.keepIn K (.ref f_law_fair) = true)
    {f_better : Addr} {oc_better : Value} {od_better an_better : Option Addr} {sl_better : Array (Option Value)} {kV_better dc_better pm_better cd_better ct_better : Value} (a_better : PySem.W.nsIn K mainGlobals "better" = some (some (.ref f_better))) (l_better : K.lookup f_better = some ⟨oc_better, od_better, .func (PySem.W.fnOf "better" "better" (defArgs s_better) (defBody s_better) (defScope s_better) .none kV_better dc_better pm_better an_better cd_better ct_better), sl_better⟩) (d_better : PySem.W.codeIn K cd_better "better" = true) (p_better : PySem.W.keepIn K (.ref f_better) = true)
    {f_law_held : Addr} {oc_law_held : Value} {od_law_held an_law_held : Option Addr} {sl_law_held : Array (Option Value)} {kV_law_held dc_law_held pm_law_held cd_law_held ct_law_held : Value} (a_law_held : PySem.W.nsIn K mainGlobals "_law_held" = some (some (.ref f_law_held))) (l_law_held : K.lookup f_law_held = some ⟨oc_law_held, od_law_held, .func (PySem.W.fnOf "_law_held" "_law_held" (defArgs s_law_held) (defBody s_law_held) (defScope s_law_held) .none kV_law_held dc_law_held pm_law_held an_law_held cd_law_held ct_law_held), sl_law_held⟩) (d_law_held : PySem.W.codeIn K cd_law_held "_law_held" = true) (p_law_held : PySem.W.keepIn K (.ref f_law_held) = true)
    {f_law_refused_k10 : Addr} {oc_law_refused_k10 : Value} {od_law_refused_k10 an_law_refused_k10 : Option Addr} {sl_law_refused_k10 : Array (Option Value)} {kV_law_refused_k10 dc_law_refused_k10 pm_law_refused_k10 cd_law_refused_k10 ct_law_refused_k10 : Value} (a_law_refused_k10 : PySem.W.nsIn K mainGlobals "_law_refused" = some (some (.ref f_law_refused_k10))) (l_law_refused_k10 : K.lookup f_law_refused_k10 = some ⟨oc_law_refused_k10, od_law_refused_k10, .func (PySem.W.fnOf "_law_refused" "_law_refused" (defArgs s_law_refused_k10) (defBody s_law_refused_k10) (defScope s_law_refused_k10) .none kV_law_refused_k10 dc_law_refused_k10 pm_law_refused_k10 an_law_refused_k10 cd_law_refused_k10 ct_law_refused_k10), sl_law_refused_k10⟩) (d_law_refused_k10 : PySem.W.codeIn K cd_law_refused_k10 "_law_refused" = true) (p_law_refused_k10 : PySem.W.keepIn K (.ref f_law_refused_k10) = true)
    {f_law_k10 : Addr} {oc_law_k10 : Value} {od_law_k10 an_law_k10 : Option Addr} {sl_law_k10 : Array (Option Value)} {kV_law_k10 dc_law_k10 pm_law_k10 cd_law_k10 ct_law_k10 : Value} (a_law_k10 : PySem.W.nsIn K mainGlobals "law" = some (some (.ref f_law_k10))) (l_law_k10 : K.lookup f_law_k10 = some ⟨oc_law_k10, od_law_k10, .func (PySem.W.fnOf "law" "law" (defArgs s_law_k10) (defBody s_law_k10) (defScope s_law_k10) .none kV_law_k10 dc_law_k10 pm_law_k10 an_law_k10 cd_law_k10 ct_law_k10), sl_law_k10⟩) (d_law_k10 : PySem.W.codeIn K cd_law_k10 "law" = true) (p_law_k10 : PySem.W.keepIn K (.ref f_law_k10) = true)
    {C_House : Addr} (g_House : PySem.W.nsIn K mainGlobals "House" = some (some (.ref C_House))) (k_House : PySem.W.keepIn K (.ref C_House) = true) (mk_House : PySem.W.makesIn K C_House = true)
    {f_house_init : Addr} {oc_house_init : Value} {od_house_init an_house_init : Option Addr} {sl_house_init : Array (Option Value)} {kV_house_init dc_house_init pm_house_init cd_house_init ct_house_init : Value} (i_house_init : PySem.W.findIn K (.ref C_House) "__init__" = some (some (.ref f_house_init))) (l_house_init : K.lookup f_house_init = some ⟨oc_house_init, od_house_init, .func (PySem.W.fnOf "__init__" "House.__init__" (defArgs s_house_init) (defBody s_house_init) (defScope s_house_init) .none kV_house_init dc_house_init pm_house_init an_house_init cd_house_init ct_house_init), sl_house_init⟩) (d_house_init : PySem.W.codeIn K cd_house_init "House.__init__" = true) (p_house_init : PySem.W.keepIn K (.ref f_house_init) = true)
    {f_house_deal : Addr} {oc_house_deal : Value} {od_house_deal an_house_deal : Option Addr} {sl_house_deal : Array (Option Value)} {kV_house_deal dc_house_deal pm_house_deal cd_house_deal ct_house_deal : Value} (i_house_deal : PySem.W.findIn K (.ref C_House) "deal" = some (some (.ref f_house_deal))) (l_house_deal : K.lookup f_house_deal = some ⟨oc_house_deal, od_house_deal, .func (PySem.W.fnOf "deal" "House.deal" (defArgs s_house_deal) (defBody s_house_deal) (defScope s_house_deal) .none kV_house_deal dc_house_deal pm_house_deal an_house_deal cd_house_deal ct_house_deal), sl_house_deal⟩) (d_house_deal : PySem.W.codeIn K cd_house_deal "House.deal" = true) (p_house_deal : PySem.W.keepIn K (.ref f_house_deal) = true)
    {f_house_table : Addr} {oc_house_table : Value} {od_house_table an_house_table : Option Addr} {sl_house_table : Array (Option Value)} {kV_house_table dc_house_table pm_house_table cd_house_table ct_house_table : Value} (i_house_table : PySem.W.findIn K (.ref C_House) "table" = some (some (.ref f_house_table))) (l_house_table : K.lookup f_house_table = some ⟨oc_house_table, od_house_table, .func (PySem.W.fnOf "table" "House.table" (defArgs s_house_table) (defBody s_house_table) (defScope s_house_table) .none kV_house_table dc_house_table pm_house_table an_house_table cd_house_table ct_house_table), sl_house_table⟩) (d_house_table : PySem.W.codeIn K cd_house_table "House.table" = true) (p_house_table : PySem.W.keepIn K (.ref f_house_table) = true)
    {f_house_bill_k10 : Addr} {oc_house_bill_k10 : Value} {od_house_bill_k10 an_house_bill_k10 : Option Addr} {sl_house_bill_k10 : Array (Option Value)} {kV_house_bill_k10 dc_house_bill_k10 pm_house_bill_k10 cd_house_bill_k10 ct_house_bill_k10 : Value} (i_house_bill_k10 : PySem.W.findIn K (.ref C_House) "bill" = some (some (.ref f_house_bill_k10))) (l_house_bill_k10 : K.lookup f_house_bill_k10 = some ⟨oc_house_bill_k10, od_house_bill_k10, .func (PySem.W.fnOf "bill" "House.bill" (defArgs s_house_bill_k10) (defBody s_house_bill_k10) (defScope s_house_bill_k10) .none kV_house_bill_k10 dc_house_bill_k10 pm_house_bill_k10 an_house_bill_k10 cd_house_bill_k10 ct_house_bill_k10), sl_house_bill_k10⟩) (d_house_bill_k10 : PySem.W.codeIn K cd_house_bill_k10 "House.bill" = true) (p_house_bill_k10 : PySem.W.keepIn K (.ref f_house_bill_k10) = true)
    {f_house_wish_k10 : Addr} {oc_house_wish_k10 : Value} {od_house_wish_k10 an_house_wish_k10 : Option Addr} {sl_house_wish_k10 : Array (Option Value)} {kV_house_wish_k10 dc_house_wish_k10 pm_house_wish_k10 cd_house_wish_k10 ct_house_wish_k10 : Value} (i_house_wish_k10 : PySem.W.findIn K (.ref C_House) "wish" = some (some (.ref f_house_wish_k10))) (l_house_wish_k10 : K.lookup f_house_wish_k10 = some ⟨oc_house_wish_k10, od_house_wish_k10, .func (PySem.W.fnOf "wish" "House.wish" (defArgs s_house_wish_k10) (defBody s_house_wish_k10) (defScope s_house_wish_k10) .none kV_house_wish_k10 dc_house_wish_k10 pm_house_wish_k10 an_house_wish_k10 cd_house_wish_k10 ct_house_wish_k10), sl_house_wish_k10⟩) (d_house_wish_k10 : PySem.W.codeIn K cd_house_wish_k10 "House.wish" = true) (p_house_wish_k10 : PySem.W.keepIn K (.ref f_house_wish_k10) = true)
    {f_house_charge_k10 : Addr} {oc_house_charge_k10 : Value} {od_house_charge_k10 an_house_charge_k10 : Option Addr} {sl_house_charge_k10 : Array (Option Value)} {kV_house_charge_k10 dc_house_charge_k10 pm_house_charge_k10 cd_house_charge_k10 ct_house_charge_k10 : Value} (i_house_charge_k10 : PySem.W.findIn K (.ref C_House) "charge" = some (some (.ref f_house_charge_k10))) (l_house_charge_k10 : K.lookup f_house_charge_k10 = some ⟨oc_house_charge_k10, od_house_charge_k10, .func (PySem.W.fnOf "charge" "House.charge" (defArgs s_house_charge_k10) (defBody s_house_charge_k10) (defScope s_house_charge_k10) .none kV_house_charge_k10 dc_house_charge_k10 pm_house_charge_k10 an_house_charge_k10 cd_house_charge_k10 ct_house_charge_k10), sl_house_charge_k10⟩) (d_house_charge_k10 : PySem.W.codeIn K cd_house_charge_k10 "House.charge" = true) (p_house_charge_k10 : PySem.W.keepIn K (.ref f_house_charge_k10) = true)
    (fn_House : PySem.W.isFn K (.ref f_house_init) = true)
    (pg_House : PySem.W.plainGet K C_House Str.empty = true) (hd_House : PySem.W.hasDictIn K C_House = true) (po_House : PySem.W.plainOver K C_House = true) (sa_House : PySem.W.findIn K (.ref C_House) "__setattr__" = some (some (.builtin "object.__setattr__")))
    (na_rows : PySem.W.findIn K (.ref C_House) "rows" = some none)
    (na_rent : PySem.W.findIn K (.ref C_House) "rent" = some none)
    (na_rooms : PySem.W.findIn K (.ref C_House) "rooms" = some none)
    (fn_house_deal : PySem.W.isFn K (.ref f_house_deal) = true)
    (fn_house_table : PySem.W.isFn K (.ref f_house_table) = true)
    (fn_house_bill_k10 : PySem.W.isFn K (.ref f_house_bill_k10) = true)
    (fn_house_wish_k10 : PySem.W.isFn K (.ref f_house_wish_k10) = true)
    (fn_house_charge_k10 : PySem.W.isFn K (.ref f_house_charge_k10) = true)
    (xd_BadRooms : PySem.W.hasDictIn K C_BadRooms = true)
    (xd_BadTable : PySem.W.hasDictIn K C_BadTable = true)
    (xd_BadRent : PySem.W.hasDictIn K C_BadRent = true)
    (su_br_br : PySem.W.subIn K (.ref C_BadRooms) (.ref C_BadRooms) = some true)
    (su_bt_br : PySem.W.subIn K (.ref C_BadTable) (.ref C_BadRooms) = some false)
    (su_bt_bt : PySem.W.subIn K (.ref C_BadTable) (.ref C_BadTable) = some true)
    (su_be_br : PySem.W.subIn K (.ref C_BadRent) (.ref C_BadRooms) = some false)
    (su_be_bt : PySem.W.subIn K (.ref C_BadRent) (.ref C_BadTable) = some false)
    (su_be_be : PySem.W.subIn K (.ref C_BadRent) (.ref C_BadRent) = some true)
    : ∃ fd : FuncData, (∀ (s : Shared) (v : Value), BindsTo s fd ⟨[v], []⟩ [("_law_script", v)]) ∧ ∀ base : Heap, K.In base → base.Ns mainGlobals mg → FnOk l.prog w K mg base (L2.CX l.prog w) 11 fa fd ["_law_script"] (spOf K (S_law_k10 ⟨0, 0, 0, 0, 0, 0, 0⟩)) := by
  have e := hfa.symm.trans (PySem.W.mg_of X G a_law_k10)
  cases e
  let T : Facts K mg :=
    { c := ⟨0, C_BadTable, C_BadRooms, C_BadRent, C_NotBest, 0, C_House⟩
      b_all := PySem.W.mg_none_of X G z_all
      b_bool := PySem.W.mg_none_of X G z_bool
      b_int := PySem.W.mg_none_of X G z_int
      b_isinstance := PySem.W.mg_none_of X G z_isinstance
      b_len := PySem.W.mg_none_of X G z_len
      b_list := PySem.W.mg_none_of X G z_list
      b_max := PySem.W.mg_none_of X G z_max
      b_range := PySem.W.mg_none_of X G z_range
      b_sum := PySem.W.mg_none_of X G z_sum
      b_tuple := PySem.W.mg_none_of X G z_tuple
      k_MOST_COINS := ⟨_, PySem.W.mg_of X G c_MOST_COINS⟩
      k_MOST_LODGERS := ⟨_, PySem.W.mg_of X G c_MOST_LODGERS⟩
      k_MOST_RENT := ⟨_, PySem.W.mg_of X G c_MOST_RENT⟩
      x_BadRent := ⟨PySem.W.mg_of X G g_BadRent, k_BadRent, e_BadRent, s_BadRent, t_BadRent⟩
      x_BadRooms := ⟨PySem.W.mg_of X G g_BadRooms, k_BadRooms, e_BadRooms, s_BadRooms, t_BadRooms⟩
      x_BadTable := ⟨PySem.W.mg_of X G g_BadTable, k_BadTable, e_BadTable, s_BadTable, t_BadTable⟩
      x_NotBest := ⟨PySem.W.mg_of X G g_NotBest, k_NotBest, e_NotBest, s_NotBest, t_NotBest⟩
      law_cell_at := ⟨f_law_cell_at, _, fun_mk (st := s_law_cell_at) l_law_cell_at d_law_cell_at p_law_cell_at, PySem.W.mg_of X G a_law_cell_at, (fun_mk (st := s_law_cell_at) l_law_cell_at d_law_cell_at p_law_cell_at).binds fun _ _ _ _ _ _ us hl => match us, hl with | [_, _], _ => rfl⟩
      law_coins_by := ⟨f_law_coins_by, _, fun_mk (st := s_law_coins_by) l_law_coins_by d_law_coins_by p_law_coins_by, PySem.W.mg_of X G a_law_coins_by, (fun_mk (st := s_law_coins_by) l_law_coins_by d_law_coins_by p_law_coins_by).binds fun _ _ _ _ _ _ us hl => match us, hl with | [_, _], _ => rfl⟩
      law_table_by := ⟨f_law_table_by, _, fun_mk (st := s_law_table_by) l_law_table_by d_law_table_by p_law_table_by, PySem.W.mg_of X G a_law_table_by, (fun_mk (st := s_law_table_by) l_law_table_by d_law_table_by p_law_table_by).binds fun _ _ _ _ _ _ us hl => match us, hl with | [_, _], _ => rfl⟩
      is_whole := ⟨f_is_whole, _, fun_mk (st := s_is_whole) l_is_whole d_is_whole p_is_whole, PySem.W.mg_of X G a_is_whole, (fun_mk (st := s_is_whole) l_is_whole d_is_whole p_is_whole).binds fun _ _ _ _ _ _ us hl => match us, hl with | [_], _ => rfl⟩
      is_row := ⟨f_is_row, _, fun_mk (st := s_is_row) l_is_row d_is_row p_is_row, PySem.W.mg_of X G a_is_row, (fun_mk (st := s_is_row) l_is_row d_is_row p_is_row).binds fun _ _ _ _ _ _ us hl => match us, hl with | [_, _], _ => rfl⟩
      need_table := ⟨f_need_table, _, fun_mk (st := s_need_table) l_need_table d_need_table p_need_table, PySem.W.mg_of X G a_need_table, (fun_mk (st := s_need_table) l_need_table d_need_table p_need_table).binds fun _ _ _ _ _ _ us hl => match us, hl with | [_], _ => rfl⟩
      need_rent := ⟨f_need_rent, _, fun_mk (st := s_need_rent) l_need_rent d_need_rent p_need_rent, PySem.W.mg_of X G a_need_rent, (fun_mk (st := s_need_rent) l_need_rent d_need_rent p_need_rent).binds fun _ _ _ _ _ _ us hl => match us, hl with | [_], _ => rfl⟩
      are_places := ⟨f_are_places, _, fun_mk (st := s_are_places) l_are_places d_are_places p_are_places, PySem.W.mg_of X G a_are_places, (fun_mk (st := s_are_places) l_are_places d_are_places p_are_places).binds fun _ _ _ _ _ _ us hl => match us, hl with | [_, _], _ => rfl⟩
      need_rooms := ⟨f_need_rooms, _, fun_mk (st := s_need_rooms) l_need_rooms d_need_rooms p_need_rooms, PySem.W.mg_of X G a_need_rooms, (fun_mk (st := s_need_rooms) l_need_rooms d_need_rooms p_need_rooms).binds fun _ _ _ _ _ _ us hl => match us, hl with | [_, _], _ => rfl⟩
      step := ⟨f_step, _, fun_mk (st := s_step) l_step d_step p_step, PySem.W.mg_of X G a_step, (fun_mk (st := s_step) l_step d_step p_step).binds fun _ _ _ _ _ _ us hl => match us, hl with | [_, _, _, _], _ => rfl⟩
      first_ways := ⟨f_first_ways, _, fun_mk (st := s_first_ways) l_first_ways d_first_ways p_first_ways, PySem.W.mg_of X G a_first_ways, (fun_mk (st := s_first_ways) l_first_ways d_first_ways p_first_ways).binds fun _ _ _ _ _ _ us hl => match us, hl with | [_, _], _ => rfl⟩
      longer_row := ⟨f_longer_row, _, fun_mk (st := s_longer_row) l_longer_row d_longer_row p_longer_row, PySem.W.mg_of X G a_longer_row, (fun_mk (st := s_longer_row) l_longer_row d_longer_row p_longer_row).binds fun _ _ _ _ _ _ us hl => match us, hl with | [_, _, _], _ => rfl⟩
      longer := ⟨f_longer, _, fun_mk (st := s_longer) l_longer d_longer p_longer, PySem.W.mg_of X G a_longer, (fun_mk (st := s_longer) l_longer d_longer p_longer).binds fun _ _ _ _ _ _ us hl => match us, hl with | [_, _, _], _ => rfl⟩
      ring_in := ⟨f_ring_in, _, fun_mk (st := s_ring_in) l_ring_in d_ring_in p_ring_in, PySem.W.mg_of X G a_ring_in, (fun_mk (st := s_ring_in) l_ring_in d_ring_in p_ring_in).binds fun _ _ _ _ _ _ us hl => match us, hl with | [_], _ => rfl⟩
      best_ways := ⟨f_best_ways, _, fun_mk (st := s_best_ways) l_best_ways d_best_ways p_best_ways, PySem.W.mg_of X G a_best_ways, (fun_mk (st := s_best_ways) l_best_ways d_best_ways p_best_ways).binds fun _ _ _ _ _ _ us hl => match us, hl with | [_, _], _ => rfl⟩
      turned := ⟨f_turned, _, fun_mk (st := s_turned) l_turned d_turned p_turned, PySem.W.mg_of X G a_turned, (fun_mk (st := s_turned) l_turned d_turned p_turned).binds fun _ _ _ _ _ _ us hl => match us, hl with | [_, _], _ => rfl⟩
      settled := ⟨f_settled, _, fun_mk (st := s_settled) l_settled d_settled p_settled, PySem.W.mg_of X G a_settled, (fun_mk (st := s_settled) l_settled d_settled p_settled).binds fun _ _ _ _ _ _ us hl => match us, hl with | [_, _], _ => rfl⟩
      best := ⟨f_best, _, fun_mk (st := s_best) l_best d_best p_best, PySem.W.mg_of X G a_best, (fun_mk (st := s_best) l_best d_best p_best).binds fun _ _ _ _ _ _ us hl => match us, hl with | [_], _ => rfl⟩
      law_deeds := ⟨f_law_deeds, _, fun_mk (st := s_law_deeds) l_law_deeds d_law_deeds p_law_deeds, PySem.W.mg_of X G a_law_deeds, (fun_mk (st := s_law_deeds) l_law_deeds d_law_deeds p_law_deeds).binds fun _ _ _ _ _ _ us hl => match us, hl with | [_, _], _ => rfl⟩
      need_ways := ⟨f_need_ways, _, fun_mk (st := s_need_ways) l_need_ways d_need_ways p_need_ways, PySem.W.mg_of X G a_need_ways, (fun_mk (st := s_need_ways) l_need_ways d_need_ways p_need_ways).binds fun _ _ _ _ _ _ us hl => match us, hl with | [_, _], _ => rfl⟩
      price_of := ⟨f_price_of, _, fun_mk (st := s_price_of) l_price_of d_price_of p_price_of, PySem.W.mg_of X G a_price_of, (fun_mk (st := s_price_of) l_price_of d_price_of p_price_of).binds fun _ _ _ _ _ _ us hl => match us, hl with | [_, _], _ => rfl⟩
      prices := ⟨f_prices, _, fun_mk (st := s_prices) l_prices d_prices p_prices, PySem.W.mg_of X G a_prices, (fun_mk (st := s_prices) l_prices d_prices p_prices).binds fun _ _ _ _ _ _ us hl => match us, hl with | [_, _], _ => rfl⟩
      parts_of := ⟨f_parts_of, _, fun_mk (st := s_parts_of) l_parts_of d_parts_of p_parts_of, PySem.W.mg_of X G a_parts_of, (fun_mk (st := s_parts_of) l_parts_of d_parts_of p_parts_of).binds fun _ _ _ _ _ _ us hl => match us, hl with | [_, _, _], _ => rfl⟩
      law_asked_k10 := ⟨f_law_asked_k10, _, fun_mk (st := s_law_asked_k10) l_law_asked_k10 d_law_asked_k10 p_law_asked_k10, PySem.W.mg_of X G a_law_asked_k10, (fun_mk (st := s_law_asked_k10) l_law_asked_k10 d_law_asked_k10 p_law_asked_k10).binds fun _ _ _ _ _ _ us hl => match us, hl with | [_], _ => rfl⟩
      need_place := ⟨f_need_place, _, fun_mk (st := s_need_place) l_need_place d_need_place p_need_place, PySem.W.mg_of X G a_need_place, (fun_mk (st := s_need_place) l_need_place d_need_place p_need_place).binds fun _ _ _ _ _ _ us hl => match us, hl with | [_, _], _ => rfl⟩
      law_whole := ⟨f_law_whole, _, fun_mk (st := s_law_whole) l_law_whole d_law_whole p_law_whole, PySem.W.mg_of X G a_law_whole, (fun_mk (st := s_law_whole) l_law_whole d_law_whole p_law_whole).binds fun _ _ _ _ _ _ us hl => match us, hl with | [_], _ => rfl⟩
      law_places := ⟨f_law_places, _, fun_mk (st := s_law_places) l_law_places d_law_places p_law_places, PySem.W.mg_of X G a_law_places, (fun_mk (st := s_law_places) l_law_places d_law_places p_law_places).binds fun _ _ _ _ _ _ us hl => match us, hl with | [_, _, _], _ => rfl⟩
      law_fair := ⟨f_law_fair, _, fun_mk (st := s_law_fair) l_law_fair d_law_fair p_law_fair, PySem.W.mg_of X G a_law_fair, (fun_mk (st := s_law_fair) l_law_fair d_law_fair p_law_fair).binds fun _ _ _ _ _ _ us hl => match us, hl with | [_, _, _], _ => rfl⟩
      better := ⟨f_better, _, fun_mk (st := s_better) l_better d_better p_better, PySem.W.mg_of X G a_better, (fun_mk (st := s_better) l_better d_better p_better).binds fun _ _ _ _ _ _ us hl => match us, hl with | [_, _], _ => rfl⟩
      law_held := ⟨f_law_held, _, fun_mk (st := s_law_held) l_law_held d_law_held p_law_held, PySem.W.mg_of X G a_law_held, (fun_mk (st := s_law_held) l_law_held d_law_held p_law_held).binds fun _ _ _ _ _ _ us hl => match us, hl with | [_, _, _, _, _], _ => rfl⟩
      law_refused_k10 := ⟨f_law_refused_k10, _, fun_mk (st := s_law_refused_k10) l_law_refused_k10 d_law_refused_k10 p_law_refused_k10, PySem.W.mg_of X G a_law_refused_k10, (fun_mk (st := s_law_refused_k10) l_law_refused_k10 d_law_refused_k10 p_law_refused_k10).binds fun _ _ _ _ _ _ us hl => match us, hl with | [_, _, _], _ => rfl⟩
      law_k10 := ⟨fa, _, fun_mk (st := s_law_k10) l_law_k10 d_law_k10 p_law_k10, PySem.W.mg_of X G a_law_k10, (fun_mk (st := s_law_k10) l_law_k10 d_law_k10 p_law_k10).binds fun _ _ _ _ _ _ us hl => match us, hl with | [_], _ => rfl⟩
      house_init := ⟨f_house_init, _, fun_mk (st := s_house_init) l_house_init d_house_init p_house_init, (fun_mk (st := s_house_init) l_house_init d_house_init p_house_init).binds fun _ _ _ _ _ _ us hl => match us, hl with | [_, _, _], _ => rfl⟩
      house_deal := ⟨f_house_deal, _, fun_mk (st := s_house_deal) l_house_deal d_house_deal p_house_deal, (fun_mk (st := s_house_deal) l_house_deal d_house_deal p_house_deal).binds fun _ _ _ _ _ _ us hl => match us, hl with | [_], _ => rfl⟩
      house_table := ⟨f_house_table, _, fun_mk (st := s_house_table) l_house_table d_house_table p_house_table, (fun_mk (st := s_house_table) l_house_table d_house_table p_house_table).binds fun _ _ _ _ _ _ us hl => match us, hl with | [_], _ => rfl⟩
      house_bill_k10 := ⟨f_house_bill_k10, _, fun_mk (st := s_house_bill_k10) l_house_bill_k10 d_house_bill_k10 p_house_bill_k10, (fun_mk (st := s_house_bill_k10) l_house_bill_k10 d_house_bill_k10 p_house_bill_k10).binds fun _ _ _ _ _ _ us hl => match us, hl with | [_, _], _ => rfl⟩
      house_wish_k10 := ⟨f_house_wish_k10, _, fun_mk (st := s_house_wish_k10) l_house_wish_k10 d_house_wish_k10 p_house_wish_k10, (fun_mk (st := s_house_wish_k10) l_house_wish_k10 d_house_wish_k10 p_house_wish_k10).binds fun _ _ _ _ _ _ us hl => match us, hl with | [_, _, _, _], _ => rfl⟩
      house_charge_k10 := ⟨f_house_charge_k10, _, fun_mk (st := s_house_charge_k10) l_house_charge_k10 d_house_charge_k10 p_house_charge_k10, (fun_mk (st := s_house_charge_k10) l_house_charge_k10 d_house_charge_k10 p_house_charge_k10).binds fun _ _ _ _ _ _ us hl => match us, hl with | [_, _], _ => rfl⟩
      H := ⟨PySem.W.mg_of X G g_House, mk_House, i_house_init, fn_House, k_House⟩
      hk := ⟨⟨pg_House, hd_House, po_House, sa_House⟩, na_rows, na_rent, na_rooms⟩
      ex10 := ⟨(PySem.W.exm_ref s_BadRooms xd_BadRooms t_BadRooms su_br_br), (PySem.W.exm_ref s_BadRooms xd_BadRooms t_BadRooms su_bt_br), (PySem.W.exm_ref s_BadTable xd_BadTable t_BadTable su_bt_bt), (PySem.W.exm_ref s_BadRooms xd_BadRooms t_BadRooms su_be_br), (PySem.W.exm_ref s_BadTable xd_BadTable t_BadTable su_be_bt), (PySem.W.exm_ref s_BadRent xd_BadRent t_BadRent su_be_be)⟩
      m_house_deal := ⟨i_house_deal, fn_house_deal, p_house_deal⟩
      m_house_table := ⟨i_house_table, fn_house_table, p_house_table⟩
      m_house_bill_k10 := ⟨i_house_bill_k10, fn_house_bill_k10, p_house_bill_k10⟩
      m_house_wish_k10 := ⟨i_house_wish_k10, fn_house_wish_k10, p_house_wish_k10⟩
      m_house_charge_k10 := ⟨i_house_charge_k10, fn_house_charge_k10, p_house_charge_k10⟩ }
  exact ⟨_, fun s v => .of_eq rfl, fun base _ _ => ok_law_k10 T⟩
theorem walk {l : PySem.W.OpenLaw} {q : Program} {loose : List Str} {XP : (Str → Option Value) → Heap → Prop} {YP : World → Heap → Prop} {d : DefRec} {K : Params → PySem.W.Frag} (hn : l.most = some 63) (hdf : d.params.defaults = [])
    (hY : ∀ (w : World) (h : Heap), YP w h → (K w.params).In h)
    (F : ∀ (w : World) (mg : Str → Option Value) (fa : Addr) (h : Heap), (K w.params).In h → h.Ns mainGlobals mg → mg d.name = some (.ref fa) →
      ∃ fd : FuncData, (∀ (s : Shared) (u : Value), BindsTo s fd ⟨[u], []⟩ [("_law_script", u)]) ∧ ∀ base : Heap, (K w.params).In base → base.Ns mainGlobals mg → FnOk l.prog w (K w.params) mg base (L2.CX l.prog w) 11 fa fd ["_law_script"] (spOf (K w.params) (S_law_k10 ⟨0, 0, 0, 0, 0, 0, 0⟩))) :
    PySem.W.WalkO q loose XP YP l.row.toRowW d [] (fun f vs => PySem.call f vs) :=
  L2.walk_of (n := 63) (k := 11) (x := "_law_script") (CX := fun w => L2.CX l.prog w) (sp := fun w => spOf (K w.params) (S_law_k10 ⟨0, 0, 0, 0, 0, 0, 0⟩)) hn (by decide) hdf ⟨rfl, by decide, by decide⟩ hY F (fun _ _ a ns hl _ hS => law_sp hS ⟨ns, rfl, hl, rfl⟩) fun _ _ _ _ _ z => no_cx z
end D

open PySem PySem.W PyProof.Rows in
set_option maxRecDepth 100000 in
set_option maxHeartbeats 0 in
theorem PySem.Challenge.cw_roomshare_k10_whole_house_holds : PySem.Challenge.rw_roomshare_k10_whole_house.Holds := by
  w_on; o_law; k_head; (case hw => w_witness2)
  k_fill
  refine D.walk (l := PySem.Challenge.rw_roomshare_k10_whole_house) rfl rfl (fun w h Y => PySem.W.kIn_of Y) ?F
  case F =>
    intro w mg fa h KX G hmg
    refine' D.all_mk KX G hmg ?z_all ?z_bool ?z_int ?z_isinstance ?z_len ?z_list ?z_max ?z_range ?z_sum ?z_tuple ?c_MOST_COINS ?c_MOST_LODGERS ?c_MOST_RENT ?g_BadRent ?k_BadRent ?e_BadRent ?s_BadRent ?t_BadRent ?g_BadRooms ?k_BadRooms ?e_BadRooms ?s_BadRooms ?t_BadRooms ?g_BadTable ?k_BadTable ?e_BadTable ?s_BadTable ?t_BadTable ?g_NotBest ?k_NotBest ?e_NotBest ?s_NotBest ?t_NotBest ?a_law_cell_at ?l_law_cell_at ?d_law_cell_at ?p_law_cell_at ?a_law_coins_by ?l_law_coins_by ?d_law_coins_by ?p_law_coins_by ?a_law_table_by ?l_law_table_by ?d_law_table_by ?p_law_table_by ?a_is_whole ?l_is_whole ?d_is_whole ?p_is_whole ?a_is_row ?l_is_row ?d_is_row ?p_is_row ?a_need_table ?l_need_table ?d_need_table ?p_need_table ?a_need_rent ?l_need_rent ?d_need_rent ?p_need_rent ?a_are_places ?l_are_places ?d_are_places ?p_are_places ?a_need_rooms ?l_need_rooms ?d_need_rooms ?p_need_rooms ?a_step ?l_step ?d_step ?p_step ?a_first_ways ?l_first_ways ?d_first_ways ?p_first_ways ?a_longer_row ?l_longer_row ?d_longer_row ?p_longer_row ?a_longer ?l_longer ?d_longer ?p_longer ?a_ring_in ?l_ring_in ?d_ring_in ?p_ring_in ?a_best_ways ?l_best_ways ?d_best_ways ?p_best_ways ?a_turned ?l_turned ?d_turned ?p_turned ?a_settled ?l_settled ?d_settled ?p_settled ?a_best ?l_best ?d_best ?p_best ?a_law_deeds ?l_law_deeds ?d_law_deeds ?p_law_deeds ?a_need_ways ?l_need_ways ?d_need_ways ?p_need_ways ?a_price_of ?l_price_of ?d_price_of ?p_price_of ?a_prices ?l_prices ?d_prices ?p_prices ?a_parts_of ?l_parts_of ?d_parts_of ?p_parts_of ?a_law_asked_k10 ?l_law_asked_k10 ?d_law_asked_k10 ?p_law_asked_k10 ?a_need_place ?l_need_place ?d_need_place ?p_need_place ?a_law_whole ?l_law_whole ?d_law_whole ?p_law_whole ?a_law_places ?l_law_places ?d_law_places ?p_law_places ?a_law_fair ?l_law_fair ?d_law_fair ?p_law_fair ?a_better ?l_better ?d_better ?p_better ?a_law_held ?l_law_held ?d_law_held ?p_law_held ?a_law_refused_k10 ?l_law_refused_k10 ?d_law_refused_k10 ?p_law_refused_k10 ?a_law_k10 ?l_law_k10 ?d_law_k10 ?p_law_k10 ?g_House ?k_House ?mk_House ?i_house_init ?l_house_init ?d_house_init ?p_house_init ?i_house_deal ?l_house_deal ?d_house_deal ?p_house_deal ?i_house_table ?l_house_table ?d_house_table ?p_house_table ?i_house_bill_k10 ?l_house_bill_k10 ?d_house_bill_k10 ?p_house_bill_k10 ?i_house_wish_k10 ?l_house_wish_k10 ?d_house_wish_k10 ?p_house_wish_k10 ?i_house_charge_k10 ?l_house_charge_k10 ?d_house_charge_k10 ?p_house_charge_k10 ?fn_House ?pg_House ?hd_House ?po_House ?sa_House ?na_rows ?na_rent ?na_rooms ?fn_house_deal ?fn_house_table ?fn_house_bill_k10 ?fn_house_wish_k10 ?fn_house_charge_k10 ?xd_BadRooms ?xd_BadTable ?xd_BadRent ?su_br_br ?su_bt_br ?su_bt_bt ?su_be_br ?su_be_bt ?su_be_be
    (case z_all => k_is)
    (case z_bool => k_is)
    (case z_int => k_is)
    (case z_isinstance => k_is)
    (case z_len => k_is)
    (case z_list => k_is)
    (case z_max => k_is)
    (case z_range => k_is)
    (case z_sum => k_is)
    (case z_tuple => k_is)
    (case c_MOST_COINS => k_is)
    (case c_MOST_LODGERS => k_is)
    (case c_MOST_RENT => k_is)
    (case g_BadRent => k_is)
    (case k_BadRent => k_is)
    (case e_BadRent => k_exc)
    (case s_BadRent => k_is)
    (case t_BadRent => k_is)
    (case g_BadRooms => k_is)
    (case k_BadRooms => k_is)
    (case e_BadRooms => k_exc)
    (case s_BadRooms => k_is)
    (case t_BadRooms => k_is)
    (case g_BadTable => k_is)
    (case k_BadTable => k_is)
    (case e_BadTable => k_exc)
    (case s_BadTable => k_is)
    (case t_BadTable => k_is)
    (case g_NotBest => k_is)
    (case k_NotBest => k_is)
    (case e_NotBest => k_exc)
    (case s_NotBest => k_is)
    (case t_NotBest => k_is)
    (case a_law_cell_at => k_is)
    (case l_law_cell_at => k_is)
    (case d_law_cell_at => k_is)
    (case p_law_cell_at => k_is)
    (case a_law_coins_by => k_is)
    (case l_law_coins_by => k_is)
    (case d_law_coins_by => k_is)
    (case p_law_coins_by => k_is)
    (case a_law_table_by => k_is)
    (case l_law_table_by => k_is)
    (case d_law_table_by => k_is)
    (case p_law_table_by => k_is)
    (case a_is_whole => k_is)
    (case l_is_whole => k_is)
    (case d_is_whole => k_is)
    (case p_is_whole => k_is)
    (case a_is_row => k_is)
    (case l_is_row => k_is)
    (case d_is_row => k_is)
    (case p_is_row => k_is)
    (case a_need_table => k_is)
    (case l_need_table => k_is)
    (case d_need_table => k_is)
    (case p_need_table => k_is)
    (case a_need_rent => k_is)
    (case l_need_rent => k_is)
    (case d_need_rent => k_is)
    (case p_need_rent => k_is)
    (case a_are_places => k_is)
    (case l_are_places => k_is)
    (case d_are_places => k_is)
    (case p_are_places => k_is)
    (case a_need_rooms => k_is)
    (case l_need_rooms => k_is)
    (case d_need_rooms => k_is)
    (case p_need_rooms => k_is)
    (case a_step => k_is)
    (case l_step => k_is)
    (case d_step => k_is)
    (case p_step => k_is)
    (case a_first_ways => k_is)
    (case l_first_ways => k_is)
    (case d_first_ways => k_is)
    (case p_first_ways => k_is)
    (case a_longer_row => k_is)
    (case l_longer_row => k_is)
    (case d_longer_row => k_is)
    (case p_longer_row => k_is)
    (case a_longer => k_is)
    (case l_longer => k_is)
    (case d_longer => k_is)
    (case p_longer => k_is)
    (case a_ring_in => k_is)
    (case l_ring_in => k_is)
    (case d_ring_in => k_is)
    (case p_ring_in => k_is)
    (case a_best_ways => k_is)
    (case l_best_ways => k_is)
    (case d_best_ways => k_is)
    (case p_best_ways => k_is)
    (case a_turned => k_is)
    (case l_turned => k_is)
    (case d_turned => k_is)
    (case p_turned => k_is)
    (case a_settled => k_is)
    (case l_settled => k_is)
    (case d_settled => k_is)
    (case p_settled => k_is)
    (case a_best => k_is)
    (case l_best => k_is)
    (case d_best => k_is)
    (case p_best => k_is)
    (case a_law_deeds => k_is)
    (case l_law_deeds => k_is)
    (case d_law_deeds => k_is)
    (case p_law_deeds => k_is)
    (case a_need_ways => k_is)
    (case l_need_ways => k_is)
    (case d_need_ways => k_is)
    (case p_need_ways => k_is)
    (case a_price_of => k_is)
    (case l_price_of => k_is)
    (case d_price_of => k_is)
    (case p_price_of => k_is)
    (case a_prices => k_is)
    (case l_prices => k_is)
    (case d_prices => k_is)
    (case p_prices => k_is)
    (case a_parts_of => k_is)
    (case l_parts_of => k_is)
    (case d_parts_of => k_is)
    (case p_parts_of => k_is)
    (case a_law_asked_k10 => k_is)
    (case l_law_asked_k10 => k_is)
    (case d_law_asked_k10 => k_is)
    (case p_law_asked_k10 => k_is)
    (case a_need_place => k_is)
    (case l_need_place => k_is)
    (case d_need_place => k_is)
    (case p_need_place => k_is)
    (case a_law_whole => k_is)
    (case l_law_whole => k_is)
    (case d_law_whole => k_is)
    (case p_law_whole => k_is)
    (case a_law_places => k_is)
    (case l_law_places => k_is)
    (case d_law_places => k_is)
    (case p_law_places => k_is)
    (case a_law_fair => k_is)
    (case l_law_fair => k_is)
    (case d_law_fair => k_is)
    (case p_law_fair => k_is)
    (case a_better => k_is)
    (case l_better => k_is)
    (case d_better => k_is)
    (case p_better => k_is)
    (case a_law_held => k_is)
    (case l_law_held => k_is)
    (case d_law_held => k_is)
    (case p_law_held => k_is)
    (case a_law_refused_k10 => k_is)
    (case l_law_refused_k10 => k_is)
    (case d_law_refused_k10 => k_is)
    (case p_law_refused_k10 => k_is)
    (case a_law_k10 => k_is)
    (case l_law_k10 => k_is)
    (case d_law_k10 => k_is)
    (case p_law_k10 => k_is)
    (case g_House => k_is)
    (case k_House => k_is)
    (case mk_House => k_is)
    (case i_house_init => k_is)
    (case l_house_init => k_is)
    (case d_house_init => k_is)
    (case p_house_init => k_is)
    (case i_house_deal => k_is)
    (case l_house_deal => k_is)
    (case d_house_deal => k_is)
    (case p_house_deal => k_is)
    (case i_house_table => k_is)
    (case l_house_table => k_is)
    (case d_house_table => k_is)
    (case p_house_table => k_is)
    (case i_house_bill_k10 => k_is)
    (case l_house_bill_k10 => k_is)
    (case d_house_bill_k10 => k_is)
    (case p_house_bill_k10 => k_is)
    (case i_house_wish_k10 => k_is)
    (case l_house_wish_k10 => k_is)
    (case d_house_wish_k10 => k_is)
    (case p_house_wish_k10 => k_is)
    (case i_house_charge_k10 => k_is)
    (case l_house_charge_k10 => k_is)
    (case d_house_charge_k10 => k_is)
    (case p_house_charge_k10 => k_is)
    (case fn_House => k_is)
    (case pg_House => k_is)
    (case hd_House => k_is)
    (case po_House => k_is)
    (case sa_House => k_is)
    (case na_rows => k_is)
    (case na_rent => k_is)
    (case na_rooms => k_is)
    (case fn_house_deal => k_is)
    (case fn_house_table => k_is)
    (case fn_house_bill_k10 => k_is)
    (case fn_house_wish_k10 => k_is)
    (case fn_house_charge_k10 => k_is)
    (case xd_BadRooms => k_is)
    (case xd_BadTable => k_is)
    (case xd_BadRent => k_is)
    (case su_br_br => k_is)
    (case su_bt_br => k_is)
    (case su_bt_bt => k_is)
    (case su_be_br => k_is)
    (case su_be_bt => k_is)
    (case su_be_be => k_is)
#print axioms PySem.Challenge.cw_roomshare_k10_whole_house_holds


