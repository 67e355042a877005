import PyProof.Rows.All
import Wide.All
import OpenK.AllK
import Wide.FinOn
import HandS.ForMost
import HandS.ForExc
import HandS.Deep
import HandS.Conv
import HandS.SetKeys
import HandS.IsInst
import HandS.ExcIs
import HandS.SuiteRaise
import HandS.Rev
import HandS.Style
import HandS.Zip
import HandS.TupLen
import HandS.More
import HandS.SetFor
import HandS.Small
import HandS.TupLe
import HandS.CallSlots
import KE.DatumOrd
import KE.KEqSeq
import PyProof.Rows.TupDisplay
import KE.GoesRaise
import PySem.Challenge.RW_sharings_k14_each_refusal_its_own
set_option Elab.async false
set_option linter.all false
set_option maxRecDepth 100000
set_option maxHeartbeats 4000000
/-! ## Part A: data over the abstract heap.
A def is read as a plain function over data; the heap's part is shown once, here. -/
namespace Sh
open PySem PySem.Spec PyProof.Rows L2

abbrev D := PyData
/-- the script: a list that is known to the object; told apart from the lists that the program makes -/
def scrD (ns : List Int) : D := .dict (ns.map fun n => (.int n, .none))
mutual
/-- v stands for d over H -/
inductive Rp (K : PySem.W.Frag) (H : Hp) : V → D → Prop
  | non : Rp K H .non .none
  | bl (b : Bool) : Rp K H (.bl b) (.bool b)
  | int (i : Int) : Rp K H (.int i) (.int i)
  | str (x : Str) : Rp K H (.str x) (.str x)
  | lst {a : Addr} {xs : List V} {ds : List D} : H a = some (.lst xs) → RpAll K H xs ds → Rp K H (.ref a) (.list ds)
  | tup {a : Addr} {xs : List V} {ds : List D} : H a = some (.tup xs) → RpAll K H xs ds → Rp K H (.ref a) (.tuple ds)
  | scr {a : Addr} {ns : List Int} : SqL K H a (ns.map V.int) → Rp K H (.ref a) (scrD ns)
inductive RpAll (K : PySem.W.Frag) (H : Hp) : List V → List D → Prop
  | nil : RpAll K H [] []
  | cons {v : V} {vs : List V} {d : D} {ds : List D} : Rp K H v d → RpAll K H vs ds → RpAll K H (v :: vs) (d :: ds)
end
def Ex (H H' : Hp) : Prop := ∀ a o, H a = some o → H' a = some o
theorem Ex.refl (H : Hp) : Ex H H := fun _ _ h => h
theorem Ex.trans {H H1 H2 : Hp} (a : Ex H H1) (b : Ex H1 H2) : Ex H H2 := fun x o h => b x o (a x o h)
theorem Ex.new {H : Hp} {p : Addr} {o : HO} (h : H p = none) : Ex H (upd H p o) := fun a u e => by
  rw [upd_ne (ne_of_none e h)]
  exact e
theorem Ex.mut {H H' : Hp} {p : Addr} {o : HO} (e : Ex H H') (h : H p = none) : Ex H (upd H' p o) := fun a u ha => by
  rw [upd_ne (ne_of_none ha h)]
  exact e a u ha
theorem Ex.none {H H' : Hp} {p : Addr} (e : Ex H H') (h : H' p = none) : H p = none := by
  cases h1 : H p with
  | none => rfl
  | some o =>
    rw [e p o h1] at h
    cases h
theorem ex_sq {K : PySem.W.Frag} {H H' : Hp} {a : Addr} {xs : List V} (e : Ex H H') (h : SqL K H a xs) : SqL K H' a xs := by
  rcases h with (h | ⟨o, h⟩) | h
  · exact .inl (.inl (e a _ h))
  · exact .inl (.inr ⟨o, e a _ h⟩)
  · exact .inr h
mutual
theorem Rp.mono {K : PySem.W.Frag} {H H' : Hp} (e : Ex H H') : ∀ {v : V} {d : D}, Rp K H v d → Rp K H' v d
  | _, _, .non => .non
  | _, _, .bl b => .bl b
  | _, _, .int i => .int i
  | _, _, .str x => .str x
  | _, _, .lst h r => .lst (e _ _ h) (RpAll.mono e r)
  | _, _, .tup h r => .tup (e _ _ h) (RpAll.mono e r)
  | _, _, .scr h => .scr (ex_sq e h)
theorem RpAll.mono {K : PySem.W.Frag} {H H' : Hp} (e : Ex H H') : ∀ {vs : List V} {ds : List D}, RpAll K H vs ds → RpAll K H' vs ds
  | _, _, .nil => .nil
  | _, _, .cons h r => .cons (Rp.mono e h) (RpAll.mono e r)
end
section
variable {K : PySem.W.Frag} {H H' Hz Hz' : Hp} {v : V} {vs : List V} {d : D} {ds : List D}
theorem RpAll.length : ∀ {vs : List V} {ds : List D}, RpAll K H vs ds → vs.length = ds.length
  | _, _, .nil => rfl
  | _, _, .cons _ r => by rw [List.length_cons, List.length_cons, RpAll.length r]
theorem RpAll.get : ∀ {vs : List V} {ds : List D} {i : Nat} {d : D}, RpAll K H vs ds → ds[i]? = some d → ∃ v, vs[i]? = some v ∧ Rp K H v d
  | _, _, _, _, .nil, e => by simp at e
  | _, _, 0, _, .cons h _, e => by simp at e; subst e; exact ⟨_, rfl, h⟩
  | _, _, i + 1, _, .cons _ r, e => by
    obtain ⟨v, h1, h2⟩ := RpAll.get (i := i) r (by simpa using e)
    exact ⟨v, by simpa using h1, h2⟩
theorem RpAll.append : ∀ {vs ws : List V} {ds es : List D}, RpAll K H vs ds → RpAll K H ws es → RpAll K H (vs ++ ws) (ds ++ es)
  | _, _, _, _, .nil, s => s
  | _, _, _, _, .cons h r, s => .cons h (RpAll.append r s)
theorem RpAll.snoc {vs : List V} {ds : List D} (r : RpAll K H vs ds) (h : Rp K H v d) : RpAll K H (vs ++ [v]) (ds ++ [d]) := r.append (.cons h .nil)
theorem RpAll.take : ∀ {vs : List V} {ds : List D} (n : Nat), RpAll K H vs ds → RpAll K H (vs.take n) (ds.take n)
  | _, _, 0, _ => .nil
  | _, _, _ + 1, .nil => .nil
  | _, _, n + 1, .cons h t => .cons h (RpAll.take n t)
theorem RpAll.drop : ∀ {vs : List V} {ds : List D} (n : Nat), RpAll K H vs ds → RpAll K H (vs.drop n) (ds.drop n)
  | _, _, 0, r => r
  | _, _, _ + 1, .nil => .nil
  | _, _, n + 1, .cons _ t => RpAll.drop n t
theorem RpAll.set : ∀ {vs : List V} {ds : List D} (i : Nat), RpAll K H vs ds → Rp K H v d → RpAll K H (vs.set i v) (ds.set i d)
  | _, _, _, .nil, _ => .nil
  | _, _, 0, .cons _ t, h => .cons h t
  | _, _, i + 1, .cons q t, h => .cons q (RpAll.set i t h)
theorem RpAll.reverse : ∀ {vs : List V} {ds : List D}, RpAll K H vs ds → RpAll K H vs.reverse ds.reverse
  | _, _, .nil => .nil
  | _, _, .cons h t => by
    rw [List.reverse_cons, List.reverse_cons]
    exact (RpAll.reverse t).snoc h
theorem RpAll.rep (n : Nat) : ∀ {vs : List V} {ds : List D}, RpAll K H vs ds → RpAll K H (List.replicate n vs).flatten (List.replicate n ds).flatten := by
  intro vs ds r
  induction n with
  | zero => exact .nil
  | succ n ih =>
    rw [List.replicate_succ, List.replicate_succ, List.flatten_cons, List.flatten_cons]
    exact r.append ih
theorem RpAll.ints : ∀ (ns : List Int), RpAll K H (ns.map V.int) (ns.map .int)
  | [] => .nil
  | n :: ns => .cons (.int n) (RpAll.ints ns)
theorem Rp.int_inv {i : Int} (h : Rp K H v (.int i)) : v = .int i := by cases h; rfl
theorem Rp.bl_inv {b : Bool} (h : Rp K H v (.bool b)) : v = .bl b := by cases h; rfl
theorem Rp.str_inv {x : Str} (h : Rp K H v (.str x)) : v = .str x := by cases h; rfl
theorem Rp.non_inv (h : Rp K H v .none) : v = .non := by cases h; rfl
theorem Rp.lst_inv (h : Rp K H v (.list ds)) : ∃ a xs, v = .ref a ∧ H a = some (.lst xs) ∧ RpAll K H xs ds := by
  cases h with
  | lst h r => exact ⟨_, _, rfl, h, r⟩
theorem Rp.tup_inv (h : Rp K H v (.tuple ds)) : ∃ a xs, v = .ref a ∧ H a = some (.tup xs) ∧ RpAll K H xs ds := by
  cases h with
  | tup h r => exact ⟨_, _, rfl, h, r⟩
theorem scr_inj {ns ms : List Int} (h : scrD ns = scrD ms) : ns = ms := by
  unfold scrD at h
  injection h with h
  have := congrArg (List.map fun p : D × D => match p.1 with | .int i => i | _ => 0) h
  simpa [List.map_map, Function.comp_def] using this
theorem Rp.scr_inv {ns : List Int} (h : Rp K H v (scrD ns)) : ∃ a, v = .ref a ∧ SqL K H a (ns.map V.int) := by
  generalize e : scrD ns = d at h
  cases h with
  | scr h =>
    have := scr_inj e
    subst this
    exact ⟨_, rfl, h⟩
  | _ => exact nomatch e
theorem RpAll.ints_inv : ∀ {ns : List Int} {vs : List V}, RpAll K H vs (ns.map .int) → vs = ns.map V.int
  | [], _, .nil => rfl
  | n :: ns, _, .cons h r => by rw [h.int_inv, RpAll.ints_inv r]; rfl
theorem RpAll.strs_inv : ∀ {ns : List Str} {vs : List V}, RpAll K H vs (ns.map .str) → vs = ns.map V.str
  | [], _, .nil => rfl
  | n :: ns, _, .cons h r => by rw [h.str_inv, RpAll.strs_inv r]; rfl

/-! ### what the heap has that stands still (Hz), and what it has in all (H) -/
/-- a tuple of numbers and texts: it stands still whoever has it -/
def KTup (o : HO) : Prop := ∃ k : List Key, o = .tup (k.map kV)
theorem not_ktup_ref {vs : List V} {a : Addr} : ¬ KTup (.tup (vs ++ [.ref a])) := by
  rintro ⟨k, z⟩
  injection z with z
  have h : V.ref a ∈ k.map kV := by rw [← z]; simp
  obtain ⟨x, _, hx⟩ := List.mem_map.mp h
  cases x <;> cases hx
/-- from Hz within H on to Hz' within H': all kept, and nothing of H that did not stand still does so now -/
structure Stp (Hz H Hz' H' : Hp) : Prop where
  ex : Ex H H'
  exz : Ex Hz Hz'
  sub : Ex Hz' H'
  nk : ∀ a o, H a = some o → ¬ KTup o → Hz a = none → Hz' a = none
theorem Stp.nw {Hz H Hz' H' : Hp} (s : Stp Hz H Hz' H') (a : Addr) (o : HO) (h : H a = some o) (z : Hz a = none) (hk : ¬ KTup o := by first | exact not_ktup_ref | exact (fun z => let ⟨_, z⟩ := z; HO.noConfusion z)) : Hz' a = none := s.nk a o h hk z
theorem Stp.refl (e : Ex Hz H) : Stp Hz H Hz H := ⟨.refl _, .refl _, e, fun _ _ _ _ h => h⟩
theorem Stp.trans {Hy Hy' : Hp} (a : Stp Hz H Hz' H') (b : Stp Hz' H' Hy Hy') : Stp Hz H Hy Hy' :=
  ⟨a.ex.trans b.ex, a.exz.trans b.exz, b.sub, fun x o h1 hk h2 => b.nk x o (a.ex x o h1) hk (a.nk x o h1 hk h2)⟩
/-- a new object that will stand still -/
theorem Stp.frz {p : Addr} {o : HO} (e : Ex Hz H) (h : H p = none) : Stp Hz H (upd Hz p o) (upd H p o) :=
  ⟨.new h, .new (e.none h), fun a u q => by
      by_cases ha : a = p
      · subst ha; rw [upd_same] at q ⊢; exact q
      · rw [upd_ne ha] at q ⊢; exact e a u q,
    fun a u q1 _ q2 => by rw [upd_ne (ne_of_none q1 h)]; exact q2⟩
/-- a new object that may change -/
theorem Stp.own {p : Addr} {o : HO} (e : Ex Hz H) (h : H p = none) : Stp Hz H Hz (upd H p o) :=
  ⟨.new h, .refl _, e.mut (e.none h), fun _ _ _ _ q => q⟩
/-- a new object of H' is frozen behind the step -/
theorem Stp.freeze {p : Addr} {o : HO} (s : Stp Hz H Hz' H') (h : H p = none) (hz : Hz' p = none) (hp : H' p = some o) : Stp Hz H (upd Hz' p o) H' :=
  ⟨s.ex, s.exz.trans (.new hz), fun a u q => by
      by_cases ha : a = p
      · subst ha; rw [upd_same] at q; cases q; exact hp
      · rw [upd_ne ha] at q; exact s.sub a u q,
    fun a u q1 k q2 => by rw [upd_ne (ne_of_none q1 h)]; exact s.nk a u q1 k q2⟩
/-- a tuple of numbers and texts may be taken as standing still -/
theorem Stp.frzT {p : Addr} {k : List Key} (e : Ex Hz H) (h : H p = some (.tup (k.map kV))) : Stp Hz H (upd Hz p (.tup (k.map kV))) H :=
  ⟨.refl _, fun a u q => by
      by_cases ha : a = p
      · subst ha; rw [upd_same]; exact (h.symm.trans (e a u q))
      · rw [upd_ne ha]; exact q,
    fun a u q => by
      by_cases ha : a = p
      · subst ha; rw [upd_same] at q; exact h.trans q
      · rw [upd_ne ha] at q; exact e a u q,
    fun a u q1 hk q2 => by
      by_cases ha : a = p
      · subst ha
        rw [h] at q1; cases q1
        exact absurd ⟨k, rfl⟩ hk
      · rw [upd_ne ha]; exact q2⟩
/-- may be read: it stands still, or it is a list whose items stand still -/
def Cn (K : PySem.W.Frag) (Hz H : Hp) (v : V) (d : D) : Prop :=
  Rp K Hz v d ∨ ∃ a xs ds, v = .ref a ∧ d = .list ds ∧ H a = some (.lst xs) ∧ RpAll K Hz xs ds
theorem Cn.stp (c : Cn K Hz H v d) (s : Stp Hz H Hz' H') : Cn K Hz' H' v d := by
  rcases c with c | ⟨a, xs, ds, e1, e2, h, r⟩
  · exact .inl (c.mono s.exz)
  · exact .inr ⟨a, xs, ds, e1, e2, s.ex _ _ h, r.mono s.exz⟩
theorem Cn.rp (c : Cn K Hz H v d) (e : Ex Hz H) : Rp K H v d := by
  rcases c with c | ⟨a, xs, ds, rfl, rfl, h, r⟩
  · exact c.mono e
  · exact .lst h (r.mono e)
theorem Cn.int_inv {i : Int} (c : Cn K Hz H v (.int i)) : v = .int i := by
  rcases c with c | ⟨_, _, _, _, e, _⟩
  · exact c.int_inv
  · cases e
theorem Cn.bl_inv {i : Bool} (c : Cn K Hz H v (.bool i)) : v = .bl i := by
  rcases c with c | ⟨_, _, _, _, e, _⟩
  · exact c.bl_inv
  · cases e
theorem Cn.str_inv {i : Str} (c : Cn K Hz H v (.str i)) : v = .str i := by
  rcases c with c | ⟨_, _, _, _, e, _⟩
  · exact c.str_inv
  · cases e
theorem Cn.non_inv (c : Cn K Hz H v .none) : v = .non := by
  rcases c with c | ⟨_, _, _, _, e, _⟩
  · exact c.non_inv
  · cases e
theorem Cn.lst_inv (c : Cn K Hz H v (.list ds)) (e : Ex Hz H) : ∃ a xs, v = .ref a ∧ H a = some (.lst xs) ∧ RpAll K Hz xs ds := by
  rcases c with c | ⟨a, xs, ds', rfl, e2, h, r⟩
  · obtain ⟨a, xs, rfl, h, r⟩ := c.lst_inv
    exact ⟨a, xs, rfl, e a _ h, r⟩
  · injection e2 with e2; subst e2
    exact ⟨a, xs, rfl, h, r⟩
theorem Cn.tup_inv (c : Cn K Hz H v (.tuple ds)) : ∃ a xs, v = .ref a ∧ Hz a = some (.tup xs) ∧ RpAll K Hz xs ds := by
  rcases c with c | ⟨_, _, _, _, e, _⟩
  · exact c.tup_inv
  · cases e
theorem Cn.scr_inv {ns : List Int} (c : Cn K Hz H v (scrD ns)) : ∃ a, v = .ref a ∧ SqL K Hz a (ns.map V.int) := by
  rcases c with c | ⟨_, _, _, _, e, _⟩
  · exact c.scr_inv
  · cases e
mutual
theorem Rp.dp {K : PySem.W.Frag} {H : Hp} : ∀ {v : V} {d : D}, Rp K H v d → d.canLay0 = true → Dp K H v d
  | _, _, .non, _ => .non
  | _, _, .bl b, _ => .bl b
  | _, _, .int i, _ => .int i
  | _, _, .str x, _ => .str x
  | _, _, .lst h r, s => .lst (SqL.of h) (RpAll.dp r s)
  | _, _, .tup h r, s => .tup (SqT.of h) (RpAll.dp r s)
  | _, _, .scr h, s => by
    simp [scrD, PyData.canLay0] at s
theorem RpAll.dp {K : PySem.W.Frag} {H : Hp} : ∀ {vs : List V} {ds : List D}, RpAll K H vs ds → PyData.canLayAll0 ds = true → DpAll K H vs ds
  | _, _, .nil, _ => .nil
  | _, _, .cons h r, s => by
    rw [PyData.canLayAll0, Bool.and_eq_true] at s
    exact .cons (Rp.dp h s.1) (RpAll.dp r s.2)
end
end
end Sh

/-! ## Part B: what a slot holds, the state of a def's body, results -/
namespace Sh
open PySem PySem.Spec PyProof.Rows L2

/-- what a slot holds, or an expression gives: nothing that is known; data that stands still; a list of the def's own, its items still; a list of such lists; a dict of the def's own -/
inductive Sl where
  | un
  | sh (d : D)
  | ow (ds : List D)
  | o2 (dss : List (List D))
  | od (kvs : List (Key × D))
  | ot (kvs : List (List Key × D))
  | ol (kvs : List (Key × List D))
  | tl (ds : List D) (last : List D)
abbrev Sg := List Sl
/-- a result: a value, an exception of a class by its name, or none of what is read here -/
inductive Rs (α : Type) where
  | ok (a : α)
  | ex (c : Nat)
  | no
def Rs.bind {α β : Type} : Rs α → (α → Rs β) → Rs β
  | .ok a, f => f a
  | .ex c, _ => .ex c
  | .no, _ => .no
theorem Rs.bind_ok {α β : Type} {a : α} {f : α → Rs β} : (Rs.ok a).bind f = f a := rfl
theorem Rs.bind_ex {α β : Type} {c : Nat} {f : α → Rs β} : (Rs.ex c : Rs α).bind f = .ex c := rfl
theorem Rs.bind_no {α β : Type} {f : α → Rs β} : (Rs.no : Rs α).bind f = .no := rfl
inductive Out where
  | nx (s : Sg)
  | rt (r : Sl)
  | bk (s : Sg)
  | ct (s : Sg)
  | ex (c : Nat) (s : Sg)
  | no
def DcR (K : PySem.W.Frag) (H : Hp) {κ : Type} : List (κ × V) → List (κ × D) → Prop := Paired fun p q => p.1 = q.1 ∧ Rp K H p.2 q.2
def InR (K : PySem.W.Frag) (Hz H : Hp) : List Addr → List (List D) → Prop := Paired fun a ds => Hz a = none ∧ ∃ xs, H a = some (.lst xs) ∧ RpAll K Hz xs ds
structure O2 (K : PySem.W.Frag) (Hz H : Hp) (p : Addr) (as : List Addr) (dss : List (List D)) : Prop where
  top : H p = some (.lst (as.map V.ref))
  nd : as.Nodup
  np : p ∉ as
  hz : Hz p = none
  inr : InR K Hz H as dss
/-- a dict of the own, its values lists of the own -/
structure OL (K : PySem.W.Frag) (Hz H : Hp) (p : Addr) (ws : List (Key × V)) (as : List Addr) (kvs : List (Key × List D)) : Prop where
  top : H p = some (.dK ws)
  wk : ws.map (·.1) = kvs.map (·.1)
  wv : ws.map (·.2) = as.map V.ref
  nd : as.Nodup
  np : p ∉ as
  hz : Hz p = none
  inr : InR K Hz H as (kvs.map (·.2))
/-- a tuple of the own, its last item a list of the own -/
structure TL (K : PySem.W.Frag) (Hz H : Hp) (p a : Addr) (vs : List V) (ds last : List D) : Prop where
  top : H p = some (.tup (vs ++ [.ref a]))
  hz : Hz p = none
  ne : p ≠ a
  za : Hz a = none
  rs : RpAll K Hz vs ds
  ra : ∃ xs, H a = some (.lst xs) ∧ RpAll K Hz xs last
def SlR (K : PySem.W.Frag) (Hz H : Hp) (s : Sl) (o : Option V) : Prop :=
  match s with
  | .un => True
  | .sh d => ∃ v, o = some v ∧ Rp K Hz v d
  | .ow ds => ∃ a xs, o = some (.ref a) ∧ H a = some (.lst xs) ∧ Hz a = none ∧ RpAll K Hz xs ds
  | .o2 dss => ∃ p as, o = some (.ref p) ∧ O2 K Hz H p as dss
  | .od kvs => ∃ a ws, o = some (.ref a) ∧ H a = some (.dK ws) ∧ Hz a = none ∧ DcR K Hz ws kvs
  | .ot kvs => ∃ a ws, o = some (.ref a) ∧ H a = some (.dT ws) ∧ Hz a = none ∧ DcR K Hz ws kvs
  | .ol kvs => ∃ p ws as, o = some (.ref p) ∧ OL K Hz H p ws as kvs
  | .tl ds last => ∃ p a vs, o = some (.ref p) ∧ TL K Hz H p a vs ds last
/-- a is a cell of the slot's own -/
def Ow (H : Hp) (s : Sl) (o : Option V) (a : Addr) : Prop :=
  match s with
  | .ow _ => o = some (.ref a)
  | .od _ => o = some (.ref a)
  | .ot _ => o = some (.ref a)
  | .o2 _ => o = some (.ref a) ∨ ∃ (p : Addr) (as : List Addr), o = some (.ref p) ∧ H p = some (.lst (as.map V.ref)) ∧ a ∈ as
  | .ol _ => o = some (.ref a) ∨ ∃ (p : Addr) (ws : List (Key × V)) (as : List Addr), o = some (.ref p) ∧ H p = some (.dK ws) ∧ ws.map (·.2) = as.map V.ref ∧ a ∈ as
  | .tl _ _ => o = some (.ref a) ∨ ∃ (p : Addr) (vs : List V), o = some (.ref p) ∧ H p = some (.tup (vs ++ [.ref a]))
  | .un => False
  | .sh _ => False
theorem refs_inj {as bs : List Addr} (h : as.map V.ref = bs.map V.ref) : as = bs := by
  induction as generalizing bs with
  | nil => cases bs with
    | nil => rfl
    | cons => simp at h
  | cons a as ih => cases bs with
    | nil => simp at h
    | cons b bs =>
      simp only [List.map_cons, List.cons.injEq, V.ref.injEq] at h
      rw [h.1, ih h.2]
section
variable {K : PySem.W.Frag} {Z0 H0 Hz H Hz' H' : Hp} {S : Sg} {σ : L2.St} {s t : Sl} {o : Option V} {a b : Addr} {i j : Nat} {v : V} {d : D}
theorem DcR.mono {κ : Type} {ws : List (κ × V)} {kvs : List (κ × D)} (e : Ex H H') (h : DcR K H ws kvs) : DcR K H' ws kvs := Paired.mapP h fun _ _ q => ⟨q.1, q.2.mono e⟩
theorem paired_mem {α β : Type} {F : α → β → Prop} : ∀ {l1 : List α} {l2 : List β}, Paired F l1 l2 → ∀ x ∈ l1, ∃ y ∈ l2, F x y
  | _, _, .cons r t, x, hx => by
    rcases List.mem_cons.mp hx with e | hx
    · subst e; exact ⟨_, List.mem_cons_self, r⟩
    · obtain ⟨y, h1, h2⟩ := paired_mem t x hx
      exact ⟨y, List.mem_cons_of_mem _ h1, h2⟩
theorem Ow.there (r : SlR K Hz H s o) (w : Ow H s o a) : Hz a = none ∧ ∃ u, H a = some u := by
  cases s with
  | un => exact w.elim
  | sh d => exact w.elim
  | ow ds =>
    obtain ⟨b, xs, e, h, hz, _⟩ := r
    have w' : o = some (.ref a) := w
    rw [e] at w'; cases w'
    exact ⟨hz, _, h⟩
  | od ds =>
    obtain ⟨b, xs, e, h, hz, _⟩ := r
    have w' : o = some (.ref a) := w
    rw [e] at w'; cases w'
    exact ⟨hz, _, h⟩
  | ot ds =>
    obtain ⟨b, xs, e, h, hz, _⟩ := r
    have w' : o = some (.ref a) := w
    rw [e] at w'; cases w'
    exact ⟨hz, _, h⟩
  | o2 dss =>
    obtain ⟨p, as, e, q⟩ := r
    rcases w with w | ⟨p', as', w, h, m⟩
    · rw [e] at w; cases w
      exact ⟨q.hz, _, q.top⟩
    · rw [e] at w; cases w
      rw [q.top] at h
      injection h with h; injection h with h
      have := refs_inj h
      subst this
      obtain ⟨ds, _, z, xs, hx, _⟩ := paired_mem q.inr a m
      exact ⟨z, _, hx⟩
  | ol kvs =>
    obtain ⟨p, ws, as, e, q⟩ := r
    rcases w with w | ⟨p', ws', as', w, h, hv, m⟩
    · rw [e] at w; cases w
      exact ⟨q.hz, _, q.top⟩
    · rw [e] at w; cases w
      rw [q.top] at h
      injection h with h; injection h with h
      subst h
      have := refs_inj (hv.symm.trans q.wv)
      subst this
      obtain ⟨ds, _, z, xs, hx, _⟩ := paired_mem q.inr a m
      exact ⟨z, _, hx⟩
  | tl ds last =>
    obtain ⟨p, b, vs, e, q⟩ := r
    rcases w with w | ⟨p', vs', w, h⟩
    · rw [e] at w; cases w
      exact ⟨q.hz, _, q.top⟩
    · rw [e] at w; cases w
      rw [q.top] at h
      injection h with h; injection h with h
      have h2 := (List.append_inj' h rfl).2
      injection h2 with h2; injection h2 with h2
      subst h2
      obtain ⟨xs, hx, _⟩ := q.ra
      exact ⟨q.za, _, hx⟩
theorem Ow.fwd (e : Ex H H') (w : Ow H s o a) : Ow H' s o a := by
  cases s with
  | o2 dss =>
    rcases w with w | ⟨p, as, w, h, m⟩
    · exact .inl w
    · exact .inr ⟨p, as, w, e _ _ h, m⟩
  | ol kvs =>
    rcases w with w | ⟨p, ws, as, w, h, hv, m⟩
    · exact .inl w
    · exact .inr ⟨p, ws, as, w, e _ _ h, hv, m⟩
  | tl ds last =>
    rcases w with w | ⟨p, vs, w, h⟩
    · exact .inl w
    · exact .inr ⟨p, vs, w, e _ _ h⟩
  | _ => exact w
theorem Ow.back (r : SlR K Hz H s o) (e : Ex H H') (w : Ow H' s o a) : Ow H s o a := by
  cases s with
  | o2 dss =>
    obtain ⟨p, as, eo, q⟩ := r
    rcases w with w | ⟨p', as', w, h, m⟩
    · exact .inl w
    · rw [eo] at w; cases w
      have h2 := e _ _ q.top
      rw [h2] at h
      injection h with h; injection h with h
      have := refs_inj h
      subst this
      exact .inr ⟨p, as, eo, q.top, m⟩
  | ol kvs =>
    obtain ⟨p, ws, as, eo, q⟩ := r
    rcases w with w | ⟨p', ws', as', w, h, hv, m⟩
    · exact .inl w
    · rw [eo] at w; cases w
      have h2 := e _ _ q.top
      rw [h2] at h
      injection h with h; injection h with h
      subst h
      exact .inr ⟨p, ws, as', eo, q.top, hv, m⟩
  | tl ds last =>
    obtain ⟨p, b, vs, eo, q⟩ := r
    rcases w with w | ⟨p', vs', w, h⟩
    · exact .inl w
    · rw [eo] at w; cases w
      have h2 := e _ _ q.top
      rw [h2] at h
      injection h with h; injection h with h
      exact .inr ⟨p, vs', eo, by rw [q.top, h]⟩
  | _ => exact w
theorem SlR.stp (r : SlR K Hz H s o) (st : Stp Hz H Hz' H') : SlR K Hz' H' s o := by
  cases s with
  | un => trivial
  | sh d => obtain ⟨v, e, h⟩ := r; exact ⟨v, e, h.mono st.exz⟩
  | ow ds => obtain ⟨a, xs, e, h, z, q⟩ := r; exact ⟨a, xs, e, st.ex _ _ h, st.nw _ _ h z, q.mono st.exz⟩
  | od ds => obtain ⟨a, xs, e, h, z, q⟩ := r; exact ⟨a, xs, e, st.ex _ _ h, st.nw _ _ h z, q.mono st.exz⟩
  | ot ds => obtain ⟨a, xs, e, h, z, q⟩ := r; exact ⟨a, xs, e, st.ex _ _ h, st.nw _ _ h z, q.mono st.exz⟩
  | o2 dss =>
    obtain ⟨p, as, e, q⟩ := r
    exact ⟨p, as, e, st.ex _ _ q.top, q.nd, q.np, st.nw _ _ q.top q.hz, Paired.mapP q.inr fun a ds ⟨z, xs, h, r⟩ => ⟨st.nw _ _ h z, xs, st.ex _ _ h, r.mono st.exz⟩⟩
  | ol kvs =>
    obtain ⟨p, ws, as, e, q⟩ := r
    exact ⟨p, ws, as, e, st.ex _ _ q.top, q.wk, q.wv, q.nd, q.np, st.nw _ _ q.top q.hz, Paired.mapP q.inr fun a ds ⟨z, xs, h, r⟩ => ⟨st.nw _ _ h z, xs, st.ex _ _ h, r.mono st.exz⟩⟩
  | tl ds last =>
    obtain ⟨p, a, vs, e, q⟩ := r
    obtain ⟨xs, hx, rx⟩ := q.ra
    exact ⟨p, a, vs, e, st.ex _ _ q.top, st.nw _ _ q.top q.hz, q.ne, st.nw _ _ hx q.za, q.rs.mono st.exz, xs, st.ex _ _ hx, rx.mono st.exz⟩
/-- a cell that is none of the slot's changes -/
theorem SlR.other {ob : HO} (r : SlR K Hz H s o) (n : ¬ Ow H s o a) : SlR K Hz (upd H a ob) s o := by
  cases s with
  | un => trivial
  | sh d => exact r
  | ow ds => obtain ⟨b, xs, e, h, z, q⟩ := r; exact ⟨b, xs, e, by rw [upd_ne (fun z => n (by subst z; exact e))]; exact h, z, q⟩
  | od ds => obtain ⟨b, xs, e, h, z, q⟩ := r; exact ⟨b, xs, e, by rw [upd_ne (fun z => n (by subst z; exact e))]; exact h, z, q⟩
  | ot ds => obtain ⟨b, xs, e, h, z, q⟩ := r; exact ⟨b, xs, e, by rw [upd_ne (fun z => n (by subst z; exact e))]; exact h, z, q⟩
  | o2 dss =>
    obtain ⟨p, as, e, q⟩ := r
    have hp : p ≠ a := fun z => n (by subst z; exact .inl e)
    have ha : ∀ b ∈ as, b ≠ a := fun b hb z => n (by subst z; exact .inr ⟨p, as, e, q.top, hb⟩)
    refine ⟨p, as, e, by rw [upd_ne hp]; exact q.top, q.nd, q.np, q.hz, ?_⟩
    have go : ∀ {as : List Addr} {dss : List (List D)}, InR K Hz H as dss → (∀ b ∈ as, b ≠ a) → InR K Hz (upd H a ob) as dss := by
      intro as dss h
      induction h with
      | nil => intro _; exact .nil
      | cons r _ ih =>
        intro hb
        obtain ⟨z, xs, h, r⟩ := r
        exact .cons ⟨z, xs, by rw [upd_ne (hb _ List.mem_cons_self)]; exact h, r⟩ (ih fun b m => hb b (List.mem_cons_of_mem _ m))
    exact go q.inr ha
  | ol kvs =>
    obtain ⟨p, ws, as, e, q⟩ := r
    have hp : p ≠ a := fun z => n (by subst z; exact .inl e)
    have ha : ∀ b ∈ as, b ≠ a := fun b hb z => n (by subst z; exact .inr ⟨p, ws, as, e, q.top, q.wv, hb⟩)
    refine ⟨p, ws, as, e, by rw [upd_ne hp]; exact q.top, q.wk, q.wv, q.nd, q.np, q.hz, ?_⟩
    have go : ∀ {as : List Addr} {dss : List (List D)}, InR K Hz H as dss → (∀ b ∈ as, b ≠ a) → InR K Hz (upd H a ob) as dss := by
      intro as dss h
      induction h with
      | nil => intro _; exact .nil
      | cons r _ ih =>
        intro hb
        obtain ⟨z, xs, h, r⟩ := r
        exact .cons ⟨z, xs, by rw [upd_ne (hb _ List.mem_cons_self)]; exact h, r⟩ (ih fun b m => hb b (List.mem_cons_of_mem _ m))
    exact go q.inr ha
  | tl ds last =>
    obtain ⟨p, b, vs, e, q⟩ := r
    have hp : p ≠ a := fun z => n (by subst z; exact .inl e)
    have hb : b ≠ a := fun z => n (by subst z; exact .inr ⟨p, vs, e, q.top⟩)
    obtain ⟨xs, hx, rx⟩ := q.ra
    exact ⟨p, b, vs, e, by rw [upd_ne hp]; exact q.top, q.hz, q.ne, q.za, q.rs, xs, by rw [upd_ne hb]; exact hx, rx⟩
theorem Ow.other {ob : HO} (r : SlR K Hz H s o) (n : ¬ Ow H s o a) (w : Ow (upd H a ob) s o b) : Ow H s o b := by
  cases s with
  | o2 dss =>
    obtain ⟨p, as, e, q⟩ := r
    have hp : p ≠ a := fun z => n (by subst z; exact .inl e)
    rcases w with w | ⟨p', as', w, h, m⟩
    · exact .inl w
    · rw [e] at w; cases w
      rw [upd_ne hp] at h
      exact .inr ⟨p, as', e, h, m⟩
  | ol kvs =>
    obtain ⟨p, ws, as, e, q⟩ := r
    have hp : p ≠ a := fun z => n (by subst z; exact .inl e)
    rcases w with w | ⟨p', ws', as', w, h, hv, m⟩
    · exact .inl w
    · rw [e] at w; cases w
      rw [upd_ne hp] at h
      exact .inr ⟨p, ws', as', e, h, hv, m⟩
  | tl ds last =>
    obtain ⟨p, c, vs, e, q⟩ := r
    have hp : p ≠ a := fun z => n (by subst z; exact .inl e)
    rcases w with w | ⟨p', vs', w, h⟩
    · exact .inl w
    · rw [e] at w; cases w
      rw [upd_ne hp] at h
      exact .inr ⟨p, vs', e, h⟩
  | _ => exact w

/-- the state: the slots' values are what S says; Z0, H0: what stood still, and stood, at the def's entry -/
structure Mt (K : PySem.W.Frag) (Z0 H0 Hz H : Hp) (S : Sg) (σ : L2.St) : Prop where
  st : Stp Z0 H0 Hz H
  len : σ.length = S.length
  sl : ∀ i s, S[i]? = some s → SlR K Hz H s (σ.getD i none)
  hz : ∀ i s a, S[i]? = some s → Ow H s (σ.getD i none) a → H0 a = none
  dj : ∀ i j s t a, S[i]? = some s → S[j]? = some t → Ow H s (σ.getD i none) a → Ow H t (σ.getD j none) a → i = j
theorem getD_some {σ : L2.St} {i : Nat} {v : V} (h : σ.getD i none = some v) : σ[i]? = some (some v) := by
  rw [List.getD_eq_getElem?_getD] at h
  cases q : σ[i]? with
  | none => rw [q] at h; cases h
  | some o => rw [q] at h; cases h; rfl
theorem getD_set_ne {σ : L2.St} {i j : Nat} {o : Option V} (h : i ≠ j) : (σ.set i o).getD j none = σ.getD j none := by
  rw [List.getD_eq_getElem?_getD, List.getD_eq_getElem?_getD, List.getElem?_set_ne h]
theorem getD_set {σ : L2.St} {i : Nat} {o : Option V} (h : i < σ.length) : (σ.set i o).getD i none = o := by
  rw [List.getD_eq_getElem?_getD, List.getElem?_set_self h]; rfl
theorem Mt.stp (m : Mt K Z0 H0 Hz H S σ) (st : Stp Hz H Hz' H') : Mt K Z0 H0 Hz' H' S σ :=
  ⟨m.st.trans st, m.len, fun i s e => (m.sl i s e).stp st, fun i s a e w => m.hz i s a e (w.back (m.sl i s e) st.ex),
    fun i j s t a e f w u => m.dj i j s t a e f (w.back (m.sl i s e) st.ex) (u.back (m.sl j t f) st.ex)⟩
theorem set_cases {α : Type} {l : List α} {i j : Nat} {x y : α} (h : (l.set i x)[j]? = some y) : (i = j ∧ i < l.length ∧ y = x) ∨ (i ≠ j ∧ l[j]? = some y) := by
  by_cases e : i = j
  · subst e
    by_cases hl : i < l.length
    · rw [List.getElem?_set_self hl] at h; cases h; exact .inl ⟨rfl, hl, rfl⟩
    · rw [List.getElem?_eq_none (by rw [List.length_set]; omega)] at h; cases h
  · rw [List.getElem?_set_ne e] at h; exact .inr ⟨e, h⟩
/-- a new value is put into a slot -/
theorem Mt.set_new (m : Mt K Z0 H0 Hz H S σ) (st : Stp Hz H Hz' H') (r : SlR K Hz' H' s (some v)) (f : ∀ a, Ow H' s (some v) a → H a = none) : Mt K Z0 H0 Hz' H' (S.set i s) (σ.set i (some v)) := by
  have m' := m.stp st
  have fr : ∀ j t a, S[j]? = some t → Ow H' s (some v) a → Ow H' t (σ.getD j none) a → False := fun j t a e w u => by
    obtain ⟨_, ob, q⟩ := (u.back (m.sl j t e) st.ex).there (m.sl j t e)
    rw [f a w] at q; cases q
  refine ⟨m'.st, by rw [List.length_set, List.length_set]; exact m.len, fun j t e => ?_, fun j t a e w => ?_, fun j k t u a e g w x => ?_⟩
  · rcases set_cases e with ⟨rfl, hl, rfl⟩ | ⟨n, e⟩
    · rw [getD_set (by rw [m.len]; exact hl)]; exact r
    · rw [getD_set_ne n]; exact m'.sl j t e
  · rcases set_cases e with ⟨rfl, hl, rfl⟩ | ⟨n, e⟩
    · rw [getD_set (by rw [m.len]; exact hl)] at w; exact m.st.ex.none (f a w)
    · rw [getD_set_ne n] at w; exact m'.hz j t a e w
  · rcases set_cases e with ⟨rfl, hl, rfl⟩ | ⟨n, e2⟩
    · rw [getD_set (by rw [m.len]; exact hl)] at w
      rcases set_cases g with ⟨rfl, _, rfl⟩ | ⟨n, g2⟩
      · rfl
      · rw [getD_set_ne n] at x; exact (fr k u a g2 w x).elim
    · rw [getD_set_ne n] at w
      rcases set_cases g with ⟨rfl, hl, rfl⟩ | ⟨n', g2⟩
      · rw [getD_set (by rw [m.len]; exact hl)] at x; exact (fr j t a e2 x w).elim
      · rw [getD_set_ne n'] at x; exact m'.dj j k t u a e2 g2 w x
/-- a cell of slot i changes; the slot's cells are then some of those it had, and new ones -/
theorem Mt.mut {ob : HO} {s' : Sl} (m : Mt K Z0 H0 Hz H S σ) (e : S[i]? = some s) (w : Ow H s (σ.getD i none) a) (r : SlR K Hz (upd H a ob) s' (σ.getD i none))
    (f : ∀ b, Ow (upd H a ob) s' (σ.getD i none) b → Ow H s (σ.getD i none) b ∨ (H0 b = none ∧ ∀ j t, S[j]? = some t → ¬ Ow H t (σ.getD j none) b)) : Mt K Z0 H0 Hz (upd H a ob) (S.set i s') σ := by
  have ha := (w.there (m.sl i s e)).1
  have h0 := m.hz i s a e w
  have no : ∀ j t, i ≠ j → S[j]? = some t → ¬ Ow H t (σ.getD j none) a := fun j t n g u => n (m.dj i j s t a e g w u)
  refine ⟨⟨m.st.ex.mut h0, m.st.exz, m.st.sub.mut ha, m.st.nk⟩, by rw [List.length_set]; exact m.len, fun j t g => ?_, fun j t b g u => ?_, fun j k t u b g g' x y => ?_⟩
  · rcases set_cases g with ⟨rfl, hl, rfl⟩ | ⟨n, g⟩
    · exact r
    · exact (m.sl j t g).other (no j t n g)
  · rcases set_cases g with ⟨rfl, hl, rfl⟩ | ⟨n, g⟩
    · rcases f b u with u | u
      · exact m.hz i s b e u
      · exact u.1
    · exact m.hz j t b g (u.other (m.sl j t g) (no j t n g))
  · rcases set_cases g with ⟨rfl, hl, rfl⟩ | ⟨n, h1⟩
    · rcases set_cases g' with ⟨rfl, _, rfl⟩ | ⟨n, h2⟩
      · rfl
      · have y' := y.other (m.sl k u h2) (no k u n h2)
        rcases f b x with x | x
        · exact m.dj i k s u b e h2 x y'
        · exact (x.2 k u h2 y').elim
    · have x' := x.other (m.sl j t h1) (no j t n h1)
      rcases set_cases g' with ⟨rfl, _, rfl⟩ | ⟨n', h2⟩
      · rcases f b y with y | y
        · exact m.dj j i t s b h1 e x' y
        · exact (y.2 j t h1 x').elim
      · exact m.dj j k t u b h1 h2 x' (y.other (m.sl k u h2) (no k u n' h2))
/-- less is known of a slot -/
theorem Mt.forget (m : Mt K Z0 H0 Hz H S σ) (i : Nat) : Mt K Z0 H0 Hz H (S.set i .un) σ := by
  refine ⟨m.st, by rw [List.length_set]; exact m.len, fun j t g => ?_, fun j t b g u => ?_, fun j k t u b g g' x y => ?_⟩
  · rcases set_cases g with ⟨rfl, hl, rfl⟩ | ⟨n, g⟩
    · trivial
    · exact m.sl j t g
  · rcases set_cases g with ⟨rfl, hl, rfl⟩ | ⟨n, g⟩
    · exact u.elim
    · exact m.hz j t b g u
  · rcases set_cases g with ⟨rfl, hl, rfl⟩ | ⟨n, h1⟩
    · exact x.elim
    · rcases set_cases g' with ⟨rfl, hl, rfl⟩ | ⟨n', h2⟩
      · exact y.elim
      · exact m.dj j k t u b h1 h2 x y
/-- a slot that has no cells of its own may be told otherwise -/
theorem Mt.tell (m : Mt K Z0 H0 Hz H S σ) (r : SlR K Hz H s (σ.getD i none)) (f : ∀ a, Ow H s (σ.getD i none) a → H0 a = none ∧ ∀ j t, i ≠ j → S[j]? = some t → ¬ Ow H t (σ.getD j none) a) : Mt K Z0 H0 Hz H (S.set i s) σ := by
  refine ⟨m.st, by rw [List.length_set]; exact m.len, fun j t g => ?_, fun j t b g u => ?_, fun j k t u b g g' x y => ?_⟩
  · rcases set_cases g with ⟨rfl, hl, rfl⟩ | ⟨n, g⟩
    · exact r
    · exact m.sl j t g
  · rcases set_cases g with ⟨rfl, hl, rfl⟩ | ⟨n, g⟩
    · exact (f b u).1
    · exact m.hz j t b g u
  · rcases set_cases g with ⟨rfl, hl, rfl⟩ | ⟨n, h1⟩
    · rcases set_cases g' with ⟨rfl, hl, rfl⟩ | ⟨n', h2⟩
      · rfl
      · exact ((f b x).2 k u n' h2 y).elim
    · rcases set_cases g' with ⟨rfl, hl, rfl⟩ | ⟨n', h2⟩
      · exact ((f b y).2 j t n h1 x).elim
      · exact m.dj j k t u b h1 h2 x y
/-- what data a slot has, if it has some -/
def Sl.d? : Sl → Option D
  | .sh d => some d
  | .ow ds => some (.list ds)
  | .o2 dss => some (.list (dss.map .list))
  | .tl ds last => some (.tuple (ds ++ [.list last]))
  | _ => none
theorem Rp.o2 {Hy : Hp} {p : Addr} {as : List Addr} {dss : List (List D)} (q : O2 K Hz H p as dss) (e : Ex Hz Hy) (h : ∀ b, b = p ∨ b ∈ as → ∀ u, H b = some u → Hy b = some u) : Rp K Hy (.ref p) (.list (dss.map .list)) := by
  refine .lst (h p (.inl rfl) _ q.top) ?_
  have go : ∀ {as : List Addr} {dss : List (List D)}, InR K Hz H as dss → (∀ b ∈ as, ∀ u, H b = some u → Hy b = some u) → RpAll K Hy (as.map V.ref) (dss.map .list) := by
    intro as dss r
    induction r with
    | nil => intro _; exact .nil
    | cons r _ ih =>
      intro hb
      obtain ⟨z, xs, hx, r⟩ := r
      exact .cons (.lst (hb _ List.mem_cons_self _ hx) (r.mono e)) (ih fun b m => hb b (List.mem_cons_of_mem _ m))
  exact go q.inr fun b m => h b (.inr m)
/-- over a heap in which the slot's own cells stand still, it is data that stands still -/
theorem SlR.fz {Hy : Hp} (r : SlR K Hz H s o) (hd : s.d? = some d) (e : Ex Hz Hy) (h : ∀ b, Ow H s o b → ∀ u, H b = some u → Hy b = some u) : ∃ v, o = some v ∧ Rp K Hy v d := by
  cases s with
  | sh d' => cases hd; obtain ⟨v, e1, r⟩ := r; exact ⟨v, e1, r.mono e⟩
  | ow ds => cases hd; obtain ⟨a, xs, e1, hx, _, r⟩ := r; exact ⟨_, e1, .lst (h a e1 _ hx) (r.mono e)⟩
  | o2 dss =>
    cases hd; obtain ⟨p, as, e1, q⟩ := r
    refine ⟨_, e1, Rp.o2 q e fun b hb u hu => h b ?_ u hu⟩
    rcases hb with rfl | hb
    · exact .inl e1
    · exact .inr ⟨p, as, e1, q.top, hb⟩
  | tl ds last =>
    cases hd; obtain ⟨p, a, vs, e1, q⟩ := r
    obtain ⟨xs, hx, rx⟩ := q.ra
    exact ⟨_, e1, .tup (h p (.inl e1) _ q.top) ((q.rs.mono e).snoc (.lst (h a (.inr ⟨p, vs, e1, q.top⟩) _ hx) (rx.mono e)))⟩
  | _ => cases hd
theorem SlR.rd (r : SlR K Hz H s o) (hd : s.d? = some d) (e : Ex Hz H) : ∃ v, o = some v ∧ Rp K H v d := r.fz hd e fun _ _ _ h => h
open Classical in
/-- slot i's cells are frozen -/
theorem Mt.freeze (m : Mt K Z0 H0 Hz H S σ) (e : S[i]? = some s) (hd : s.d? = some d) : ∃ Hy, Ex Hz Hy ∧ Mt K Z0 H0 Hy H (S.set i (.sh d)) σ ∧ ∃ v, σ.getD i none = some v ∧ Rp K Hy v d := by
  let Hy : Hp := fun b => if Ow H s (σ.getD i none) b then H b else Hz b
  have y1 : ∀ b, Ow H s (σ.getD i none) b → Hy b = H b := fun b h => if_pos h
  have y2 : ∀ b, ¬ Ow H s (σ.getD i none) b → Hy b = Hz b := fun b h => if_neg h
  have ez : Ex Hz Hy := fun b u h => by
    by_cases w : Ow H s (σ.getD i none) b
    · rw [(w.there (m.sl i s e)).1] at h; cases h
    · rw [y2 b w]; exact h
  have eh : Ex Hy H := fun b u h => by
    by_cases w : Ow H s (σ.getD i none) b
    · rw [y1 b w] at h; exact h
    · rw [y2 b w] at h; exact m.st.sub b u h
  obtain ⟨v, ev, rv⟩ := (m.sl i s e).fz (Hy := Hy) hd ez fun b w u h => by rw [y1 b w]; exact h
  have mf := m.forget i
  have m2 : Mt K Z0 H0 Hy H (S.set i .un) σ := by
    refine ⟨⟨m.st.ex, m.st.exz.trans ez, eh, fun b u h1 hk h2 => ?_⟩, mf.len, fun j t g => ?_, mf.hz, mf.dj⟩
    · by_cases w : Ow H s (σ.getD i none) b
      · have := m.hz i s b e w; rw [h1] at this; cases this
      · rw [y2 b w]; exact m.st.nk b u h1 hk h2
    · rcases set_cases g with ⟨rfl, hl, rfl⟩ | ⟨n, g⟩
      · trivial
      · have r := m.sl j t g
        have nz : ∀ b, Ow H t (σ.getD j none) b → Hz b = none → Hy b = none := fun b w hb => by
          rw [y2 b fun x => n (m.dj i j s t b e g x w)]; exact hb
        cases t with
        | un => trivial
        | sh d => obtain ⟨v, e1, h⟩ := r; exact ⟨v, e1, h.mono ez⟩
        | ow ds => obtain ⟨a, xs, e1, h, z, q⟩ := r; exact ⟨a, xs, e1, h, nz a e1 z, q.mono ez⟩
        | od ds => obtain ⟨a, xs, e1, h, z, q⟩ := r; exact ⟨a, xs, e1, h, nz a e1 z, q.mono ez⟩
        | ot ds => obtain ⟨a, xs, e1, h, z, q⟩ := r; exact ⟨a, xs, e1, h, nz a e1 z, q.mono ez⟩
        | o2 dss =>
          obtain ⟨p, as, e1, q⟩ := r
          refine ⟨p, as, e1, q.top, q.nd, q.np, nz p (.inl e1) q.hz, ?_⟩
          have go : ∀ {bs : List Addr} {ess : List (List D)}, InR K Hz H bs ess → (∀ b ∈ bs, b ∈ as) → InR K Hy H bs ess := by
            intro bs ess h
            induction h with
            | nil => intro _; exact .nil
            | cons r _ ih =>
              intro hb
              obtain ⟨z, xs, h, r⟩ := r
              exact .cons ⟨nz _ (.inr ⟨p, as, e1, q.top, hb _ List.mem_cons_self⟩) z, xs, h, r.mono ez⟩ (ih fun b m => hb b (List.mem_cons_of_mem _ m))
          exact go q.inr fun _ h => h
        | ol kvs =>
          obtain ⟨p, ws, as, e1, q⟩ := r
          refine ⟨p, ws, as, e1, q.top, q.wk, q.wv, q.nd, q.np, nz p (.inl e1) q.hz, ?_⟩
          have go : ∀ {bs : List Addr} {ess : List (List D)}, InR K Hz H bs ess → (∀ b ∈ bs, b ∈ as) → InR K Hy H bs ess := by
            intro bs ess h
            induction h with
            | nil => intro _; exact .nil
            | cons r _ ih =>
              intro hb
              obtain ⟨z, xs, h, r⟩ := r
              exact .cons ⟨nz _ (.inr ⟨p, ws, as, e1, q.top, q.wv, hb _ List.mem_cons_self⟩) z, xs, h, r.mono ez⟩ (ih fun b m => hb b (List.mem_cons_of_mem _ m))
          exact go q.inr fun _ h => h
        | tl ds last =>
          obtain ⟨p, a, vs, e1, q⟩ := r
          obtain ⟨xs, hx, rx⟩ := q.ra
          exact ⟨p, a, vs, e1, q.top, nz p (.inl e1) q.hz, q.ne, nz a (.inr ⟨p, vs, e1, q.top⟩) q.za, q.rs.mono ez, xs, hx, rx.mono ez⟩
  refine ⟨Hy, ez, ?_, v, ev, rv⟩
  have m3 := m2.tell (i := i) (s := .sh d) ⟨v, ev, rv⟩ fun _ w => w.elim
  rw [List.set_set] at m3
  exact m3
end
end Sh

/-! ## Part C: judgements. A piece of syntax does what a plain function of the slots says -/
namespace Sh
open PySem PySem.Spec PyProof.Rows L2

/-- how much a value stands still: st: wholly; cn: its items do; rd: it may be read now -/
inductive Kd where | st | cn | rd
def Kd.R (k : Kd) (K : PySem.W.Frag) (Hz H : Hp) (v : V) (d : D) : Prop :=
  match k with
  | .st => Rp K Hz v d
  | .cn => Cn K Hz H v d
  | .rd => Rp K H v d
def PV (K : PySem.W.Frag) (Hz H : Hp) (Q : VK) (r : Sl) : Prop := ∀ v Hz' H', Stp Hz H Hz' H' → SlR K Hz' H' r (some v) → (∀ a, Ow H' r (some v) a → H a = none) → Q v H'
def PK (k : Kd) (K : PySem.W.Frag) (Hz H : Hp) (Q : VK) (d : D) : Prop := ∀ v Hz' H', Stp Hz H Hz' H' → k.R K Hz' H' v d → Q v H'
def PB (Hz H : Hp) (Q : Bool → Hp → Prop) (b : Bool) : Prop := ∀ Hz' H', Stp Hz H Hz' H' → Q b H'
def KAll (k : Kd) (K : PySem.W.Frag) (Hz H : Hp) : List V → List D → Prop := Paired (k.R K Hz H)
def PL (k : Kd) (K : PySem.W.Frag) (Hz H : Hp) (Q : List V → Hp → Prop) (ds : List D) : Prop := ∀ vs Hz' H', Stp Hz H Hz' H' → KAll k K Hz' H' vs ds → Q vs H'
/-- a result's wish: of a value P; of an exception W -/
def PR {α : Type} (A : Nat → Addr) (W : WX) (σ : L2.St) (Hz H : Hp) (P : α → Prop) (r : Rs α) : Prop :=
  match r with
  | .ok a => P a
  | .ex c => ∀ Hz' H', Stp Hz H Hz' H' → W (.ref (A c)) none σ H'
  | .no => False
def PO (K : PySem.W.Frag) (A : Nat → Addr) (W : WX) (Z0 H0 Hz : Hp) (Dn : Ends) (o : Out) : Prop :=
  match o with
  | .nx S => ∀ Hz' H' σ', Ex Hz Hz' → Mt K Z0 H0 Hz' H' S σ' → Dn.nx σ' H'
  | .rt r => PV K Z0 H0 Dn.rt r
  | .bk S => ∀ Hz' H' σ', Ex Hz Hz' → Mt K Z0 H0 Hz' H' S σ' → Dn.bk σ' H'
  | .ct S => ∀ Hz' H' σ', Ex Hz Hz' → Mt K Z0 H0 Hz' H' S σ' → Dn.ct σ' H'
  | .ex c S => ∀ Hz' H' σ', Ex Hz Hz' → Mt K Z0 H0 Hz' H' S σ' → W (.ref (A c)) none σ' H'
  | .no => False
/-- what an iterator gives, whatever is changed of what does not stand still -/
structure ItOk (K : PySem.W.Frag) (J : It) (Hz : Hp) (ds : List D) : Prop where
  go : ∀ i H, Ex Hz H → i < ds.length → J.go i H
  yld : ∀ i H x H' d, Ex Hz H → ds[i]? = some d → J.yld i H x H' → H' = H ∧ Rp K Hz x d
  stop : ∀ H, Ex Hz H → J.stop ds.length H
def tX (K : PySem.W.Frag) (A : Nat → Addr) (W : WX) (f : Sg → Rs Sl) : TE := fun σ H Q => ∃ Z0 H0 Hz S, Mt K Z0 H0 Hz H S σ ∧ PR A W σ Hz H (PV K Hz H Q) (f S)
def tK (K : PySem.W.Frag) (A : Nat → Addr) (W : WX) (k : Kd) (f : Sg → Rs D) : TE := fun σ H Q => ∃ Z0 H0 Hz S, Mt K Z0 H0 Hz H S σ ∧ PR A W σ Hz H (PK k K Hz H Q) (f S)
def tT (K : PySem.W.Frag) (A : Nat → Addr) (W : WX) (f : Sg → Rs Bool) : TT := fun σ H Q => ∃ Z0 H0 Hz S, Mt K Z0 H0 Hz H S σ ∧ PR A W σ Hz H (PB Hz H Q) (f S)
def tA (K : PySem.W.Frag) (A : Nat → Addr) (W : WX) (k : Kd) (f : Sg → Rs (List D)) : TA := fun σ H Q => ∃ Z0 H0 Hz S, Mt K Z0 H0 Hz H S σ ∧ PR A W σ Hz H (PL k K Hz H Q) (f S)
def tS (K : PySem.W.Frag) (A : Nat → Addr) (W : WX) (g : Sg → Out) : TS := fun Dn σ H => ∃ Z0 H0 Hz S, Mt K Z0 H0 Hz H S σ ∧ PO K A W Z0 H0 Hz Dn (g S)
def tI (K : PySem.W.Frag) (A : Nat → Addr) (W : WX) (f : Sg → Rs (List D)) : TI := fun σ H R => ∃ Z0 H0 Hz S, Mt K Z0 H0 Hz H S σ ∧ PR A W σ Hz H (fun ds => ∀ J Hz' H', Stp Hz H Hz' H' → ItOk K J Hz' ds → R J H') (f S)
/-- an expression gives f of the slots | .. data of kind k | a test | arguments | a statement | a block | what is walked -/
abbrev EX (X : Cx) (A : Nat → Addr) (W : WX) (e : Expr) (f : Sg → Rs Sl) : Prop := PE X e (tX X.K A W f)
abbrev EK (X : Cx) (A : Nat → Addr) (W : WX) (k : Kd) (e : Expr) (f : Sg → Rs D) : Prop := PE X e (tK X.K A W k f)
abbrev ET (X : Cx) (A : Nat → Addr) (W : WX) (e : Expr) (f : Sg → Rs Bool) : Prop := PT X e (tT X.K A W f)
abbrev EW (X : Cx) (A : Nat → Addr) (W : WX) (e : Expr) (f : Sg → Rs Bool) : Prop := PW X e (tT X.K A W f)
abbrev EA (X : Cx) (A : Nat → Addr) (W : WX) (k : Kd) (es : List Expr) (f : Sg → Rs (List D)) : Prop := PA X es (tA X.K A W k f)
abbrev SX (X : Cx) (A : Nat → Addr) (W : WX) (st : Stmt) (g : Sg → Out) : Prop := PS X st (tS X.K A W g)
abbrev SB (X : Cx) (A : Nat → Addr) (W : WX) (st : List Stmt) (g : Sg → Out) : Prop := PSs X st (tS X.K A W g)
abbrev IX (X : Cx) (A : Nat → Addr) (W : WX) (tg e : Expr) (f : Sg → Rs (List D)) : Prop := PI X tg e (tI X.K A W f)

theorem PE.imp {X : Cx} {e : Expr} {t t' : TE} (h : PE X e t) (k : ∀ σ H Q, t' σ H Q → t σ H Q) : PE X e t' := ⟨fun pins s σ H Q I q => h.run pins s σ H Q I (k σ H Q q)⟩
theorem PT.imp {X : Cx} {e : Expr} {t t' : TT} (h : PT X e t) (k : ∀ σ H Q, t' σ H Q → t σ H Q) : PT X e t' := ⟨fun pins s σ H Q I q => h.run pins s σ H Q I (k σ H Q q)⟩
theorem PW.imp {X : Cx} {e : Expr} {t t' : TT} (h : PW X e t) (k : ∀ σ H Q, t' σ H Q → t σ H Q) : PW X e t' := ⟨fun wh pins s σ H Q I q => h.run wh pins s σ H Q I (k σ H Q q)⟩
theorem PA.imp {X : Cx} {es : List Expr} {t t' : TA} (h : PA X es t) (k : ∀ σ H Q, t' σ H Q → t σ H Q) : PA X es t' := ⟨fun pos pins s σ H Q I q => h.run pos pins s σ H Q I (k σ H Q q)⟩
theorem PS.imp {X : Cx} {st : Stmt} {t t' : TS} (h : PS X st t) (k : ∀ Dn σ H, t' Dn σ H → t Dn σ H) : PS X st t' := ⟨fun pins s σ H Dn I q => h.run pins s σ H Dn I (k Dn σ H q)⟩
theorem PSs.imp {X : Cx} {st : List Stmt} {t t' : TS} (h : PSs X st t) (k : ∀ Dn σ H, t' Dn σ H → t Dn σ H) : PSs X st t' := ⟨fun pins s σ H Dn I q => h.run pins s σ H Dn I (k Dn σ H q)⟩
theorem PI.imp {X : Cx} {tg e : Expr} {t t' : TI} (h : PI X tg e t) (k : ∀ σ H R, t' σ H R → t σ H R) : PI X tg e t' := ⟨fun pins s σ H R I q => h.run pins s σ H R I (k σ H R q)⟩
theorem PI.or {X : Cx} {tg e : Expr} {t t' : TI} (h : PI X tg e t) (h' : PI X tg e t') : PI X tg e (fun σ H R => t σ H R ∨ t' σ H R) := ⟨fun pins s σ H R I q => q.elim (h.run pins s σ H R I) (h'.run pins s σ H R I)⟩

section
variable {K : PySem.W.Frag} {A : Nat → Addr} {W : WX} {Z0 H0 Hz H Hz1 H1 : Hp} {S : Sg} {σ : L2.St} {α β : Type} {P : α → Prop}
theorem Kd.stp {k : Kd} {v : V} {d : D} (h : k.R K Hz H v d) (st : Stp Hz H Hz1 H1) : k.R K Hz1 H1 v d := by
  cases k with
  | st => exact Rp.mono st.exz h
  | cn => exact Cn.stp h st
  | rd => exact Rp.mono st.ex h
theorem Kd.read {k : Kd} {v : V} {d : D} (h : k.R K Hz H v d) (e : Ex Hz H) : Rp K H v d := by
  cases k with
  | st => exact Rp.mono e h
  | cn => exact Cn.rp h e
  | rd => exact h
theorem KAll.stp {k : Kd} {vs : List V} {ds : List D} (h : KAll k K Hz H vs ds) (st : Stp Hz H Hz1 H1) : KAll k K Hz1 H1 vs ds := Paired.mapP h fun _ _ q => Kd.stp q st
theorem KAll.all {vs : List V} {ds : List D} (h : KAll .st K Hz H vs ds) : RpAll K Hz vs ds := by
  unfold KAll at h
  induction h with
  | nil => exact .nil
  | cons r _ ih => exact .cons r ih
theorem KAll.rall {k : Kd} {vs : List V} {ds : List D} (h : KAll k K Hz H vs ds) (e : Ex Hz H) : RpAll K H vs ds := by
  unfold KAll at h
  induction h with
  | nil => exact .nil
  | cons r _ ih => exact .cons (Kd.read r e) ih
theorem PV.stp {Q : VK} {r : Sl} (q : PV K Hz H Q r) (st : Stp Hz H Hz1 H1) : PV K Hz1 H1 Q r := fun v Hz' H' st' sr f => q v Hz' H' (st.trans st') sr fun a w => st.ex.none (f a w)
theorem PK.stp {k : Kd} {Q : VK} {d : D} (q : PK k K Hz H Q d) (st : Stp Hz H Hz1 H1) : PK k K Hz1 H1 Q d := fun v Hz' H' st' r => q v Hz' H' (st.trans st') r
theorem PL.stp {k : Kd} {Q : List V → Hp → Prop} {d : List D} (q : PL k K Hz H Q d) (st : Stp Hz H Hz1 H1) : PL k K Hz1 H1 Q d := fun v Hz' H' st' r => q v Hz' H' (st.trans st') r
theorem PB.stp {Q : Bool → Hp → Prop} {d : Bool} (q : PB Hz H Q d) (st : Stp Hz H Hz1 H1) : PB Hz1 H1 Q d := fun Hz' H' st' => q Hz' H' (st.trans st')
theorem PR.bind {P' : β → Prop} {r : Rs α} {f : α → Rs β} {P : α → Prop} (q : PR A W σ Hz H P' (r.bind f)) (k : ∀ a, PR A W σ Hz H P' (f a) → P a) : PR A W σ Hz H P r := by
  cases r with
  | ok a => exact k a q
  | ex c => exact q
  | no => exact q
theorem PR.stp {P1 : α → Prop} {r : Rs α} (q : PR A W σ Hz H P r) (st : Stp Hz H Hz1 H1) (k : ∀ a, P a → P1 a) : PR A W σ Hz1 H1 P1 r := by
  cases r with
  | ok a => exact k a q
  | ex c => exact fun Hz' H' s => q Hz' H' (st.trans s)
  | no => exact q
theorem PR.imp {P1 : α → Prop} {r : Rs α} (q : PR A W σ Hz H P r) (k : ∀ a, P a → P1 a) : PR A W σ Hz H P1 r := by
  cases r with
  | ok a => exact k a q
  | ex c => exact q
  | no => exact q
theorem PO.ez {Dn : Ends} {o : Out} (q : PO K A W Z0 H0 Hz Dn o) (e : Ex Hz Hz1) : PO K A W Z0 H0 Hz1 Dn o := by
  cases o with
  | nx S => exact fun Hz' H' σ' e' => q Hz' H' σ' (e.trans e')
  | rt r => exact q
  | bk S => exact fun Hz' H' σ' e' => q Hz' H' σ' (e.trans e')
  | ct S => exact fun Hz' H' σ' e' => q Hz' H' σ' (e.trans e')
  | ex c S => exact fun Hz' H' σ' e' => q Hz' H' σ' (e.trans e')
  | no => exact q
/-- a result of the first expression, then the rest -/
def Rs.thenO (r : Rs α) (S : Sg) (k : α → Out) : Out :=
  match r with
  | .ok a => k a
  | .ex c => .ex c S
  | .no => .no
theorem PO.bind {Dn : Ends} {r : Rs α} {k : α → Out} (m : Mt K Z0 H0 Hz H S σ) (q : PO K A W Z0 H0 Hz Dn (r.thenO S k)) (h : ∀ a, PO K A W Z0 H0 Hz Dn (k a) → P a) : PR A W σ Hz H P r := by
  cases r with
  | ok a => exact h a q
  | ex c => exact fun Hz' H' s => q Hz' H' σ s.exz (m.stp s)
  | no => exact q
end

/-! ### results as data, data of one kind as data of another -/
section
variable {X : Cx} {A : Nat → Addr} {W : WX} {e : Expr} {k : Kd}
def fS (f : Sg → Rs Sl) : Sg → Rs D := fun S => (f S).bind fun r => match r.d? with
  | some d => .ok d
  | none => .no
def fX (f : Sg → Rs D) : Sg → Rs Sl := fun S => (f S).bind fun d => .ok (.sh d)
open Classical in
/-- a new thing of the own may be frozen -/
theorem PV.fz {K : PySem.W.Frag} {Hz H : Hp} {Q : VK} {r : Sl} {d : D} (hd : r.d? = some d) (q : PV K Hz H Q (.sh d)) : PV K Hz H Q r := fun v Hz' H' st sr f => by
  let Hy : Hp := fun b => if Ow H' r (some v) b then H' b else Hz' b
  have y1 : ∀ b, Ow H' r (some v) b → Hy b = H' b := fun b h => if_pos h
  have y2 : ∀ b, ¬ Ow H' r (some v) b → Hy b = Hz' b := fun b h => if_neg h
  have ez : Ex Hz' Hy := fun b u h => by
    by_cases w : Ow H' r (some v) b
    · rw [(w.there sr).1] at h; cases h
    · rw [y2 b w]; exact h
  have eh : Ex Hy H' := fun b u h => by
    by_cases w : Ow H' r (some v) b
    · rw [y1 b w] at h; exact h
    · rw [y2 b w] at h; exact st.sub b u h
  obtain ⟨v', e, rp⟩ := sr.fz (Hy := Hy) hd ez fun b w u h => by rw [y1 b w]; exact h
  cases e
  refine q v Hy H' ⟨st.ex, st.exz.trans ez, eh, fun a u h1 hk h2 => ?_⟩ ⟨v, rfl, rp⟩ fun _ w => w.elim
  by_cases w : Ow H' r (some v) a
  · have := f a w; rw [h1] at this; cases this
  · rw [y2 a w]; exact st.nk a u h1 hk h2
theorem es_x {f : Sg → Rs Sl} (h : EX X A W e f) : EK X A W .st e (fS f) := PE.imp h fun σ H Q ⟨Z0, H0, Hz, S, m, q⟩ => by
  refine ⟨Z0, H0, Hz, S, m, q.bind fun r q => ?_⟩
  cases hd : r.d? with
  | none => rw [hd] at q; exact q.elim
  | some d =>
    rw [hd] at q
    refine PV.fz hd fun v Hz' H' st sr _ => ?_
    obtain ⟨v', e, rp⟩ := sr
    cases e
    exact q v Hz' H' st rp
theorem ec_s {f : Sg → Rs D} (h : EK X A W .st e f) : EK X A W .cn e f := PE.imp h fun σ H Q ⟨Z0, H0, Hz, S, m, q⟩ => ⟨Z0, H0, Hz, S, m, q.imp fun d q v Hz' H' st r => q v Hz' H' st (.inl r)⟩
theorem er_k {f : Sg → Rs D} (h : EK X A W k e f) : EK X A W .rd e f := PE.imp h fun σ H Q ⟨Z0, H0, Hz, S, m, q⟩ => ⟨Z0, H0, Hz, S, m, q.imp fun d q v Hz' H' st r => q v Hz' H' st (Kd.read r st.sub)⟩
theorem ex_s {f : Sg → Rs D} (h : EK X A W .st e f) : EX X A W e (fX f) := PE.imp h fun σ H Q ⟨Z0, H0, Hz, S, m, q⟩ =>
  ⟨Z0, H0, Hz, S, m, q.bind fun d q v Hz' H' st r => q v Hz' H' st ⟨v, rfl, r⟩ fun _ w => w.elim⟩
theorem ec_x {f : Sg → Rs Sl} (h : EX X A W e f) : EK X A W .cn e (fS f) := ec_s (es_x h)
theorem er_x {f : Sg → Rs Sl} (h : EX X A W e f) : EK X A W .rd e (fS f) := er_k (es_x h)
end

/-! ### names, constants -/
section
variable {X : Cx} {A : Nat → Addr} {W : WX} {e : Expr} {k : Kd} {pos : Pos}
def rVar (i : Nat) : Sg → Rs D := fun S => match S[i]? with
  | some s => (match s.d? with | some d => .ok d | none => .no)
  | none => .no
def lVar (i : Nat) : Sg → Rs D := fun S => match S[i]? with
  | some (.sh d) => .ok d
  | some (.ow ds) => .ok (.list ds)
  | _ => .no
def sVar (i : Nat) : Sg → Rs D := fun S => match S[i]? with
  | some (.sh d) => .ok d
  | _ => .no
theorem getD_get {σ : L2.St} {i : Nat} {v : V} (h : σ.getD i none = some v) : σ[i]? = some (some v) := getD_some h
theorem rd_var {i : Nat} {x : Str} (hN : X.N[i]? = some x) (hv : Vis X.env.scope x) (hd : (x == ("__debug__" : Str)) = false := by decide) (hcd : (x == ("__classdict__" : Str)) = false := by decide) : EK X A W .rd (.Name x pos) (rVar i) :=
  PE.imp (pe_var hN hv hd hcd) fun σ H Q ⟨Z0, H0, Hz, S, m, q⟩ => by
    unfold rVar at q
    cases e1 : S[i]? with
    | none => rw [e1] at q; exact q.elim
    | some s =>
      rw [e1] at q
      simp only at q
      cases e2 : s.d? with
      | none => rw [e2] at q; exact q.elim
      | some d =>
        rw [e2] at q
        obtain ⟨v, ev, rv⟩ := (m.sl i s e1).rd e2 m.st.sub
        exact ⟨v, getD_some ev, q v Hz H (.refl m.st.sub) rv⟩
theorem cn_var {i : Nat} {x : Str} (hN : X.N[i]? = some x) (hv : Vis X.env.scope x) (hd : (x == ("__debug__" : Str)) = false := by decide) (hcd : (x == ("__classdict__" : Str)) = false := by decide) : EK X A W .cn (.Name x pos) (lVar i) :=
  PE.imp (pe_var hN hv hd hcd) fun σ H Q ⟨Z0, H0, Hz, S, m, q⟩ => by
    unfold lVar at q
    split at q
    · rename_i d e1
      obtain ⟨v, ev, rv⟩ := m.sl i _ e1
      exact ⟨v, getD_some ev, q v Hz H (.refl m.st.sub) (.inl rv)⟩
    · rename_i ds e1
      obtain ⟨a, xs, ev, h, z, r⟩ := m.sl i _ e1
      exact ⟨.ref a, getD_some ev, q _ Hz H (.refl m.st.sub) (.inr ⟨a, xs, ds, rfl, rfl, h, r⟩)⟩
    · exact q.elim
theorem st_var {i : Nat} {x : Str} (hN : X.N[i]? = some x) (hv : Vis X.env.scope x) (hd : (x == ("__debug__" : Str)) = false := by decide) (hcd : (x == ("__classdict__" : Str)) = false := by decide) : EK X A W .st (.Name x pos) (sVar i) :=
  PE.imp (pe_var hN hv hd hcd) fun σ H Q ⟨Z0, H0, Hz, S, m, q⟩ => by
    unfold sVar at q
    split at q
    · rename_i d e1
      obtain ⟨v, ev, rv⟩ := m.sl i _ e1
      exact ⟨v, getD_some ev, q v Hz H (.refl m.st.sub) rv⟩
    · exact q.elim
def fC (d : D) : Sg → Rs D := fun _ => .ok d
theorem ec_of {v : V} {d : D} (h : PE X e (tC v)) (r : ∀ H, Rp X.K H v d) : EK X A W .st e (fC d) := PE.imp h fun σ H Q ⟨Z0, H0, Hz, S, m, q⟩ => q v Hz H (.refl m.st.sub) (r Hz)
theorem e_int {i : Int} {j} : EK X A W .st (.Constant (.int i) j pos) (fC (.int i)) := ec_of pe_int fun _ => .int i
theorem e_bl {b : Bool} {j} : EK X A W .st (.Constant (.bool b) j pos) (fC (.bool b)) := ec_of pe_bl fun _ => .bl b
theorem e_non {j} : EK X A W .st (.Constant .none j pos) (fC .none) := ec_of pe_non fun _ => .non
theorem e_str {x : Str} {j} : EK X A W .st (.Constant (.str x) j pos) (fC (.str x)) := ec_of pe_str fun _ => .str x
theorem e_globI {x : Str} {i : Int} {t} (hg : Gl X x) (hm : X.mg x = some (.int i t)) (hd : (x == ("__debug__" : Str)) = false := by decide) : EK X A W .st (.Name x pos) (fC (.int i)) := ec_of (pe_glob (v := .int i) hg hm ⟨t, rfl⟩ hd) fun _ => .int i
theorem e_globS {x : Str} {i : Str} {t} (hg : Gl X x) (hm : X.mg x = some (.str i t)) (hd : (x == ("__debug__" : Str)) = false := by decide) : EK X A W .st (.Name x pos) (fC (.str i)) := ec_of (pe_glob (v := .str i) hg hm ⟨t, rfl⟩ hd) fun _ => .str i
end

/-! ### arguments -/
section
variable {X : Cx} {A : Nat → Addr} {W : WX} {e : Expr} {es : List Expr} {k : Kd}
def fNil : Sg → Rs (List D) := fun _ => .ok []
def fCons (f : Sg → Rs D) (g : Sg → Rs (List D)) : Sg → Rs (List D) := fun S => (f S).bind fun x => (g S).bind fun xs => .ok (x :: xs)
theorem ea_nil : EA X A W k [] fNil := PA.imp pa_nil fun σ H Q ⟨Z0, H0, Hz, S, m, q⟩ => q [] Hz H (.refl m.st.sub) .nil
theorem ea_cons {f : Sg → Rs D} {g : Sg → Rs (List D)} (h : EK X A W k e f) (t : EA X A W k es g) (hs : starEach (e :: es) X.env = (false, eval e X.env) :: starEach es X.env := by rfl) : EA X A W k (e :: es) (fCons f g) :=
  PA.imp (pa_cons h t hs) fun σ H Q ⟨Z0, H0, Hz, S, m, q⟩ => by
    refine ⟨Z0, H0, Hz, S, m, q.bind fun d q v Hz1 H1 st1 r1 => ?_⟩
    refine ⟨Z0, H0, Hz1, S, m.stp st1, (q.stp st1 fun _ q => q.stp st1).bind fun ds q vs Hz2 H2 st2 r2 => ?_⟩
    exact q _ Hz2 H2 st2 (.cons (Kd.stp r1 st2) r2)
end
/-! ### operators, by values -/
def PN {α : Type} (P : α → Prop) (r : Rs α) : Prop :=
  match r with
  | .ok a => P a
  | _ => False
def OpOk (k1 k2 : Kd) (K : PySem.W.Frag) (r : R2) (g : D → D → Rs Sl) : Prop := ∀ Hz H x y d1 d2 (Q : VK), Ex Hz H → k1.R K Hz H x d1 → k2.R K Hz H y d2 → PN (PV K Hz H Q) (g d1 d2) → r x y H Q
def UnOk (k : Kd) (K : PySem.W.Frag) (r : V → Hp → VK → Prop) (g : D → Rs Sl) : Prop := ∀ Hz H x d (Q : VK), Ex Hz H → k.R K Hz H x d → PN (PV K Hz H Q) (g d) → r x H Q
def CaOk (k : Kd) (K : PySem.W.Frag) (r : List V → Hp → VK → Prop) (g : List D → Rs Sl) : Prop := ∀ Hz H xs ds (Q : VK), Ex Hz H → KAll k K Hz H xs ds → PN (PV K Hz H Q) (g ds) → r xs H Q
/-- no exception of its own -/
def NoEx {α : Type} (r : Rs α) : Prop := ∀ c, r ≠ .ex c
section
variable {X : Cx} {A : Nat → Addr} {W : WX} {a b c e : Expr} {es : List Expr} {k k1 k2 k3 : Kd} {pos : Pos} {fa fb fc : Sg → Rs D} {r r' : R2} {g g' : D → D → Rs Sl}
def fBin (g : D → D → Rs Sl) (fa fb : Sg → Rs D) : Sg → Rs Sl := fun S => (fa S).bind fun x => (fb S).bind fun y => g x y
def fUn (g : D → Rs Sl) (fa : Sg → Rs D) : Sg → Rs Sl := fun S => (fa S).bind g
def fApp (g : List D → Rs Sl) (fa : Sg → Rs (List D)) : Sg → Rs Sl := fun S => (fa S).bind g
def Rs.tb (r : Rs Sl) : Rs Bool := r.bind fun s => match s with
  | .sh (.bool b) => .ok b
  | _ => .no
def fTB (f : Sg → Rs Sl) : Sg → Rs Bool := fun S => (f S).tb
theorem PN.of {α : Type} {A : Nat → Addr} {W : WX} {σ : L2.St} {Hz H : Hp} {P : α → Prop} {r : Rs α} (n : NoEx r) (q : PR A W σ Hz H P r) : PN P r := by
  cases r with
  | ok a => exact q
  | ex c => exact (n c rfl).elim
  | no => exact q
theorem bin_core {K : PySem.W.Frag} (n : ∀ x y, NoEx (g x y)) (hk : OpOk k1 k2 K r g) {σ : L2.St} {H : Hp} {Q : VK} (h : tX K A W (fBin g fa fb) σ H Q) : tOp r (tK K A W k1 fa) (tK K A W k2 fb) σ H Q := by
  obtain ⟨Z0, H0, Hz, S, m, q⟩ := h
  refine ⟨Z0, H0, Hz, S, m, q.bind fun d q v Hz1 H1 st1 r1 => ?_⟩
  refine ⟨Z0, H0, Hz1, S, m.stp st1, (q.stp st1 fun _ q => q.stp st1).bind fun d2 q v2 Hz2 H2 st2 r2 => ?_⟩
  exact hk Hz2 H2 v v2 d d2 Q st2.sub (Kd.stp r1 st2) r2 ((q.stp st2 fun _ q => q.stp st2) |> PN.of (n _ _))
theorem ex_op {op : Operator} (ho : OpR X (binaryOp op) r) (n : ∀ x y, NoEx (g x y)) (hk : OpOk k1 k2 X.K r g) (ha : EK X A W k1 a fa) (hb : EK X A W k2 b fb) : EX X A W (.BinOp a op b pos) (fBin g fa fb) :=
  PE.imp (pe_op ho ha hb) fun _ _ _ h => bin_core n hk h
theorem ex_cmp {op : CmpOp} (ho : OpR X (compareOp op) r) (n : ∀ x y, NoEx (g x y)) (hk : OpOk k1 k2 X.K r g) (ha : EK X A W k1 a fa) (hb : EK X A W k2 b fb) (hm : behindInMarks op b = false) : EX X A W (.Compare a [op] [b] pos) (fBin g fa fb) :=
  PE.imp (pe_cmpR ho ha hb hm) fun _ _ _ h => bin_core n hk h
theorem ex_ix (hr : IxR X r) (n : ∀ x y, NoEx (g x y)) (hk : OpOk k1 k2 X.K r g) (ha : EK X A W k1 a fa) (hb : EK X A W k2 b fb) (hs : PlainIx b) : EX X A W (.Subscript a b pos) (fBin g fa fb) :=
  PE.imp (pe_ix hr ha hb hs) fun _ _ _ h => bin_core n hk h
theorem tb_core {K : PySem.W.Frag} {f : Sg → Rs Sl} {σ : L2.St} {H : Hp} {Q : Bool → Hp → Prop} (h : tT K A W (fTB f) σ H Q) : tX K A W f σ H fun x H' => ∃ k, x = .bl k ∧ Q k H' := by
  obtain ⟨Z0, H0, Hz, S, m, q⟩ := h
  refine ⟨Z0, H0, Hz, S, m, PR.bind q fun s q v Hz1 H1 st1 sr fr => ?_⟩
  split at q
  · rename_i b
    obtain ⟨v', e, rv⟩ := sr
    cases e
    cases rv
    exact ⟨b, rfl, q Hz1 H1 st1⟩
  · exact q.elim
theorem et_cmp {op : CmpOp} (ho : OpR X (compareOp op) r) (n : ∀ x y, NoEx (g x y)) (hk : OpOk k1 k2 X.K r g) (ha : EK X A W k1 a fa) (hb : EK X A W k2 b fb) (hm : behindInMarks op b = false) : ET X A W (.Compare a [op] [b] pos) (fTB (fBin g fa fb)) :=
  PT.imp (pt_cmpR ho ha hb hm) fun _ _ _ h => bin_core n hk (tb_core h)
/-- a test that is a value -/
theorem et_val {f : Sg → Rs Sl} (h : EX X A W e f) (he : ∀ whole, isTrue e X.env whole = (do let v ← whole; standAt e.pos; holding [v] (truthy v)) := by intro _; rfl) : ET X A W e (fTB f) :=
  PT.imp (pt_val h he) fun _ _ _ h => tb_core h
def fChain (g g' : D → D → Rs Sl) (fa fb fc : Sg → Rs D) : Sg → Rs Sl := fun S => (fa S).bind fun x => (fb S).bind fun y => (g x y).tb.bind fun c => if c = true then (fc S).bind fun z => g' y z else .ok (.sh (.bool false))
theorem chain_core {K : PySem.W.Frag} (n : ∀ x y, NoEx (g x y)) (hk : OpOk k1 k2 K r g) (n' : ∀ x y, NoEx (g' x y)) (hk' : OpOk k2 k3 K r' g') {σ : L2.St} {H : Hp} {Q : VK} (h : tX K A W (fChain g g' fa fb fc) σ H Q) :
    tChain r r' (tK K A W k1 fa) (tK K A W k2 fb) (tK K A W k3 fc) σ H Q := by
  obtain ⟨Z0, H0, Hz, S, m, q⟩ := h
  refine ⟨Z0, H0, Hz, S, m, q.bind fun d q v Hz1 H1 st1 r1 => ?_⟩
  refine ⟨Z0, H0, Hz1, S, m.stp st1, (q.stp st1 fun _ q => q.stp st1).bind fun d2 q v2 Hz2 H2 st2 r2 => ?_⟩
  have q2 := q.stp st2 fun _ q => PV.stp q st2
  refine hk Hz2 H2 v v2 d d2 _ st2.sub (Kd.stp r1 st2) r2 ?_
  have nx := n d d2
  cases hg : g d d2 with
  | ex c => exact (nx c hg).elim
  | no => rw [hg] at q2; exact q2.elim
  | ok s =>
    rw [hg] at q2
    intro v3 Hz3 H3 st3 sr fr
    have q3 := q2.stp st3 fun _ q => PV.stp q st3
    unfold Rs.tb at q3
    rw [Rs.bind_ok] at q3
    split at q3
    · rename_i k
      obtain ⟨v', e, rv⟩ := sr
      cases e
      cases rv
      refine ⟨k, rfl, ?_⟩
      cases k with
      | true =>
        show tK K A W k3 fc σ H3 _
        refine ⟨Z0, H0, Hz3, S, ((m.stp st1).stp st2).stp st3, PR.bind q3 fun d3 q v3 Hz4 H4 st4 r4 => ?_⟩
        exact hk' Hz4 H4 v2 v3 d2 d3 Q st4.sub (Kd.stp (Kd.stp r2 st3) st4) r4 ((q.stp st4 fun _ q => PV.stp q st4) |> PN.of (n' _ _))
      | false =>
        exact q3 _ Hz3 H3 (.refl st3.sub) ⟨_, rfl, .bl false⟩ fun _ w => w.elim
    · exact q3.elim
theorem ex_chain {op op' : CmpOp} (ho : OpR X (compareOp op) r) (n : ∀ x y, NoEx (g x y)) (hk : OpOk k1 k2 X.K r g) (ho' : OpR X (compareOp op') r') (n' : ∀ x y, NoEx (g' x y)) (hk' : OpOk k2 k3 X.K r' g')
    (ha : EK X A W k1 a fa) (hb : EK X A W k2 b fb) (hc : EK X A W k3 c fc) (hm : lastMarks [op, op'] [b, c] = false := by with_unfolding_all rfl) : EX X A W (.Compare a [op, op'] [b, c] pos) (fChain g g' fa fb fc) :=
  PE.imp (pe_chain ho ho' ha hb hc hm) fun _ _ _ h => chain_core n hk n' hk' h
theorem et_chain {op op' : CmpOp} (ho : OpR X (compareOp op) r) (n : ∀ x y, NoEx (g x y)) (hk : OpOk k1 k2 X.K r g) (ho' : OpR X (compareOp op') r') (n' : ∀ x y, NoEx (g' x y)) (hk' : OpOk k2 k3 X.K r' g')
    (ha : EK X A W k1 a fa) (hb : EK X A W k2 b fb) (hc : EK X A W k3 c fc) (hm : lastMarks [op, op'] [b, c] = false := by with_unfolding_all rfl) : ET X A W (.Compare a [op, op'] [b, c] pos) (fTB (fChain g g' fa fb fc)) :=
  PT.imp (pt_chain ho ho' ha hb hc hm) fun _ _ _ h => chain_core n hk n' hk' (tb_core h)
theorem ex_un {op : UnaryOp} {r : V → Hp → VK → Prop} {g : D → Rs Sl} (ho : UnR X (unaryOp op) r) (n : ∀ x, NoEx (g x)) (hk : UnOk k X.K r g) (ha : EK X A W k a fa) : EX X A W (.UnaryOp op a pos) (fUn g fa) :=
  PE.imp (pe_un ho ha) fun σ H Q ⟨Z0, H0, Hz, S, m, q⟩ => ⟨Z0, H0, Hz, S, m, q.bind fun d q v Hz1 H1 st1 r1 =>
    hk Hz1 H1 v d Q st1.sub r1 ((q.stp st1 fun _ q => q.stp st1) |> PN.of (n _))⟩
theorem cb_core {K : PySem.W.Frag} {r : List V → Hp → VK → Prop} {g : List D → Rs Sl} {fa : Sg → Rs (List D)} (n : ∀ x, NoEx (g x)) (hk : CaOk k K r g) {σ : L2.St} {H : Hp} {Q : VK} (h : tX K A W (fApp g fa) σ H Q) : tCB r (tA K A W k fa) σ H Q := by
  obtain ⟨Z0, H0, Hz, S, m, q⟩ := h
  exact ⟨Z0, H0, Hz, S, m, q.bind fun d q v Hz1 H1 st1 r1 => hk Hz1 H1 v d Q st1.sub r1 ((q.stp st1 fun _ q => q.stp st1) |> PN.of (n _))⟩
theorem ex_callB {id : String} {x : Str} {p : Pos} {r : List V → Hp → VK → Prop} {g : List D → Rs Sl} {fa : Sg → Rs (List D)} (hc : CallR X (.builtin id) r) (n : ∀ x, NoEx (g x)) (hk : CaOk k X.K r g) (hg : Gl X x) (hm : X.mg x = none) (hv : bootBuiltins x = some (.builtin id))
    (ha : EA X A W k (e :: es) fa) (hn : x ≠ "__name__" := by decide) (hdb : (x == ("__debug__" : Str)) = false := by decide) (hs : starEach (e :: es) X.env = (false, eval e X.env) :: starEach es X.env := by rfl) (hpl : (backTo pos (starEach es X.env)).any (·.1) = false := by rfl) : EX X A W (.Call (.Name x p) (e :: es) [] pos) (fApp g fa) :=
  PE.imp (pe_callB hc hg hm hv ha hn hdb hs hpl) fun _ _ _ h => cb_core n hk h
theorem ex_callTy {T : String} {x : Str} {p : Pos} {r : List V → Hp → VK → Prop} {g : List D → Rs Sl} {fa : Sg → Rs (List D)} (hc : CallR X (.type T) r) (n : ∀ x, NoEx (g x)) (hk : CaOk k X.K r g) (hg : Gl X x) (hm : X.mg x = none) (hv : bootBuiltins x = some (.type T))
    (ha : EA X A W k (e :: es) fa) (hn : x ≠ "__name__" := by decide) (hdb : (x == ("__debug__" : Str)) = false := by decide) (hs : starEach (e :: es) X.env = (false, eval e X.env) :: starEach es X.env := by rfl) (hpl : (backTo pos (starEach es X.env)).any (·.1) = false := by rfl) : EX X A W (.Call (.Name x p) (e :: es) [] pos) (fApp g fa) :=
  PE.imp (pe_callTy hc hg hm hv ha hn hdb hs hpl) fun _ _ _ h => cb_core n hk h
end
end Sh

/-! ## Part D: operators and built-ins as functions of data -/
namespace Sh
open PySem PySem.Spec PyProof.Rows L2

/-! ### the functions -/
abbrev okI (i : Int) : Rs Sl := .ok (.sh (.int i))
abbrev okB (b : Bool) : Rs Sl := .ok (.sh (.bool b))
def LIM : Nat := 10000
def oAdd : D → D → Rs Sl
  | .int i, .int j => okI (i + j)
  | .list a, .list b => if a.length + b.length ≤ LIM then .ok (.ow (a ++ b)) else .no
  | .str a, .str b => if a.length + b.length ≤ LIM then .ok (.sh (.str (a ++ b))) else .no
  | _, _ => .no
def oSub : D → D → Rs Sl
  | .int i, .int j => okI (i - j)
  | _, _ => .no
def oMul : D → D → Rs Sl
  | .int i, .int j => if (-18446744073709551616 < i ∧ i < 18446744073709551616) ∨ (-18446744073709551616 < j ∧ j < 18446744073709551616) then okI (i * j) else .no
  | .list a, .int k => if k ≤ 1000 ∧ a.length * k.toNat ≤ LIM ∧ -1000 ≤ k then .ok (.ow (List.replicate k.toNat a).flatten) else .no
  | _, _ => .no
def oMod : D → D → Rs Sl
  | .int i, .int j => if 0 < j then okI (i % j) else .no
  | _, _ => .no
def oDiv : D → D → Rs Sl
  | .int i, .int j => if 0 < j ∧ j < 1073741824 then okI (i / j) else .no
  | _, _ => .no
def oPow : D → D → Rs Sl
  | .int i, .int j => if 0 ≤ j ∧ j ≤ 1000 ∧ i.natAbs < 18446744073709551616 then okI (i ^ j.toNat) else .no
  | _, _ => .no
def oNeg : D → Rs Sl
  | .int i => okI (-i)
  | _ => .no
def oLt : D → D → Rs Sl
  | .int i, .int j => okB (decide (i < j))
  | _, _ => .no
def oLe : D → D → Rs Sl
  | .int i, .int j => okB (decide (i ≤ j))
  | _, _ => .no
def oGt : D → D → Rs Sl
  | .int i, .int j => okB (decide (j < i))
  | _, _ => .no
def oGe : D → D → Rs Sl
  | .int i, .int j => okB (decide (j ≤ i))
  | _, _ => .no
def oEq (x y : D) : Rs Sl := if SeqAt.shaped x = true ∧ SeqAt.shaped y = true then okB (PyData.eqv x y) else .no
def oNe (x y : D) : Rs Sl := if SeqAt.shaped x = true ∧ SeqAt.shaped y = true then okB (!PyData.eqv x y) else .no
def isNone : D → Bool
  | .none => true
  | _ => false
/-- x is None, x is True, x is False -/
def oIs : D → D → Rs Sl
  | x, .none => okB (isNone x)
  | .bool a, .bool b => okB (decide (a = b))
  | _, _ => .no
def oIsNot : D → D → Rs Sl
  | x, .none => okB (!isNone x)
  | .bool a, .bool b => okB (!decide (a = b))
  | _, _ => .no
def ints? : List D → Option (List Int)
  | [] => some []
  | .int i :: r => (ints? r).map (i :: ·)
  | _ :: _ => none
/-- x in xs: a list of data, a tuple of numbers, a sign in a text -/
def oIn : D → D → Rs Sl
  | x, .list ds => if SeqAt.shaped x = true ∧ SeqAt.shaped (.list ds) = true then okB (ds.any fun z => PyData.eqv z x) else .no
  | .int i, .tuple ds => match ints? ds with
    | some ns => okB (decide (i ∈ ns))
    | none => .no
  | .str x, .str y => match x.cps.toList with
    | [c] => okB (decide (c ∈ y.cps.toList))
    | _ => .no
  | _, _ => .no
def notS : Sl → Sl
  | .sh (.bool b) => .sh (.bool !b)
  | s => s
def oNotIn (x y : D) : Rs Sl := (oIn x y).bind fun s => .ok (notS s)
def oIdx : D → D → Rs Sl
  | .list ds, .int i => match atI ds i with
    | some d => .ok (.sh d)
    | none => .no
  | .tuple ds, .int i => match atI ds i with
    | some d => .ok (.sh d)
    | none => .no
  | .str x, .int i => if x.length ≤ LIM then (match atI x.cps.toList i with
    | some c => .ok (.sh (.str ⟨#[c]⟩))
    | none => .no) else .no
  | .dict kvs, .int i => match atI (kvs.map (·.1)) i with
    | some d => .ok (.sh d)
    | none => .no
  | _, _ => .no
/-- an item that is read now: nothing of it need stand still -/
def oIdxR (x y : D) : Rs D := (oIdx x y).bind fun s => match s with
  | .sh d => .ok d
  | _ => .no
def oLen : List D → Rs Sl
  | [.list ds] => okI ds.length
  | [.tuple ds] => okI ds.length
  | [.str x] => if x.length ≤ LIM then okI x.length else .no
  | [.dict kvs] => okI kvs.length
  | _ => .no
def oMax : List D → Rs Sl
  | [.list ds] => match ints? ds with
    | some ns => (match ns.max? with
      | some m => okI m
      | none => .no)
    | none => .no
  | _ => .no
def oMax2 : List D → Rs Sl
  | [.int i, .int j] => okI (if j > i then j else i)
  | _ => .no
def oMin2 : List D → Rs Sl
  | [.int i, .int j] => okI (if j < i then j else i)
  | _ => .no
def oSum : List D → Rs Sl
  | [.list ds] => match ints? ds with
    | some ns => okI ns.sum
    | none => .no
  | _ => .no
def ins (x : Int) : List Int → List Int
  | [] => [x]
  | y :: r => if x ≤ y then x :: y :: r else y :: ins x r
/-- the sorted list -/
def isort : List Int → List Int
  | [] => []
  | x :: r => ins x (isort r)
def oSorted : List D → Rs Sl
  | [.list ds] => match ints? ds with
    | some ns => if ns.length < 64 then .ok (.ow ((isort ns).map .int)) else .no
    | none => .no
  | _ => .no
def oList : List D → Rs Sl
  | [.list ds] => .ok (.ow ds)
  | [.tuple ds] => .ok (.ow ds)
  | _ => .no
def oIntB : List D → Rs Sl
  | [.bool b] => okI (if b then 1 else 0)
  | [.int i] => okI i
  | _ => .no
def oStrI : List D → Rs Sl
  | [.int i] => if i.natAbs < 1000000 then .ok (.sh (.str (toString i))) else .no
  | _ => .no

/-! ### none of them raises -/
section
theorem ne_of_eq {α : Type} {a : α} : NoEx (Rs.ok a) := fun _ h => nomatch h
theorem ne_no {α : Type} : NoEx (Rs.no : Rs α) := fun _ h => nomatch h
theorem ne_bind {α β : Type} {r : Rs α} {f : α → Rs β} (h : NoEx r) (h' : ∀ a, NoEx (f a)) : NoEx (r.bind f) := by
  cases r with
  | ok a => exact h' a
  | ex c => exact (h c rfl).elim
  | no => exact ne_no
theorem n_add (x y : D) : NoEx (oAdd x y) := by unfold oAdd; (repeat' split) <;> first | exact ne_of_eq | exact ne_no
theorem n_sub (x y : D) : NoEx (oSub x y) := by unfold oSub; (repeat' split) <;> first | exact ne_of_eq | exact ne_no
theorem n_mul (x y : D) : NoEx (oMul x y) := by unfold oMul; (repeat' split) <;> first | exact ne_of_eq | exact ne_no
theorem n_mod (x y : D) : NoEx (oMod x y) := by unfold oMod; (repeat' split) <;> first | exact ne_of_eq | exact ne_no
theorem n_div (x y : D) : NoEx (oDiv x y) := by unfold oDiv; (repeat' split) <;> first | exact ne_of_eq | exact ne_no
theorem n_pow (x y : D) : NoEx (oPow x y) := by unfold oPow; (repeat' split) <;> first | exact ne_of_eq | exact ne_no
theorem n_neg (x : D) : NoEx (oNeg x) := by unfold oNeg; (repeat' split) <;> first | exact ne_of_eq | exact ne_no
theorem n_lt (x y : D) : NoEx (oLt x y) := by unfold oLt; (repeat' split) <;> first | exact ne_of_eq | exact ne_no
theorem n_le (x y : D) : NoEx (oLe x y) := by unfold oLe; (repeat' split) <;> first | exact ne_of_eq | exact ne_no
theorem n_gt (x y : D) : NoEx (oGt x y) := by unfold oGt; (repeat' split) <;> first | exact ne_of_eq | exact ne_no
theorem n_ge (x y : D) : NoEx (oGe x y) := by unfold oGe; (repeat' split) <;> first | exact ne_of_eq | exact ne_no
theorem n_eq (x y : D) : NoEx (oEq x y) := by unfold oEq; (repeat' split) <;> first | exact ne_of_eq | exact ne_no
theorem n_ne (x y : D) : NoEx (oNe x y) := by unfold oNe; (repeat' split) <;> first | exact ne_of_eq | exact ne_no
theorem n_is (x y : D) : NoEx (oIs x y) := by unfold oIs; (repeat' split) <;> first | exact ne_of_eq | exact ne_no
theorem n_isn (x y : D) : NoEx (oIsNot x y) := by unfold oIsNot; (repeat' split) <;> first | exact ne_of_eq | exact ne_no
theorem n_in (x y : D) : NoEx (oIn x y) := by
  unfold oIn
  repeat' split
  all_goals first | exact ne_of_eq | exact ne_no
theorem n_notin (x y : D) : NoEx (oNotIn x y) := ne_bind (n_in x y) fun _ => ne_of_eq
theorem n_idx (x y : D) : NoEx (oIdx x y) := by
  unfold oIdx
  repeat' split
  all_goals first | exact ne_of_eq | exact ne_no
theorem n_len (x : List D) : NoEx (oLen x) := by unfold oLen; (repeat' split) <;> first | exact ne_of_eq | exact ne_no
theorem n_max (x : List D) : NoEx (oMax x) := by
  unfold oMax
  repeat' split
  all_goals first | exact ne_of_eq | exact ne_no
theorem n_max2 (x : List D) : NoEx (oMax2 x) := by unfold oMax2; (repeat' split) <;> first | exact ne_of_eq | exact ne_no
theorem n_min2 (x : List D) : NoEx (oMin2 x) := by unfold oMin2; (repeat' split) <;> first | exact ne_of_eq | exact ne_no
theorem n_sum (x : List D) : NoEx (oSum x) := by
  unfold oSum
  repeat' split
  all_goals first | exact ne_of_eq | exact ne_no
theorem n_sorted (x : List D) : NoEx (oSorted x) := by
  unfold oSorted
  repeat' split
  all_goals first | exact ne_of_eq | exact ne_no
theorem n_list (x : List D) : NoEx (oList x) := by unfold oList; (repeat' split) <;> first | exact ne_of_eq | exact ne_no
theorem n_intB (x : List D) : NoEx (oIntB x) := by unfold oIntB; (repeat' split) <;> first | exact ne_of_eq | exact ne_no
theorem n_strI (x : List D) : NoEx (oStrI x) := by unfold oStrI; (repeat' split) <;> first | exact ne_of_eq | exact ne_no
end

/-! ### what they are over the heap -/
section
variable {K : PySem.W.Frag} {Hz H : Hp} {Q : VK} {X : Cx}
theorem pv_sh {v : V} {d : D} (e : Ex Hz H) (q : PV K Hz H Q (.sh d)) (r : Rp K Hz v d) : Q v H := q v Hz H (.refl e) ⟨v, rfl, r⟩ fun _ w => w.elim
theorem pv_int {i : Int} (e : Ex Hz H) (q : PV K Hz H Q (.sh (.int i))) : Q (.int i) H := pv_sh e q (.int i)
theorem pv_bl {i : Bool} (e : Ex Hz H) (q : PV K Hz H Q (.sh (.bool i))) : Q (.bl i) H := pv_sh e q (.bl i)
theorem pv_str {i : Str} (e : Ex Hz H) (q : PV K Hz H Q (.sh (.str i))) : Q (.str i) H := pv_sh e q (.str i)
theorem pv_ow {ds : List D} {xs : List V} {p : Addr} (e : Ex Hz H) (q : PV K Hz H Q (.ow ds)) (hp : H p = none) (r : RpAll K Hz xs ds) : Q (.ref p) (upd H p (.lst xs)) :=
  q (.ref p) Hz _ (.own e hp) ⟨p, xs, rfl, upd_same, e.none hp, r⟩ fun a w => by
    have w' : some (V.ref p) = some (.ref a) := w
    cases w'; exact hp
theorem lim {n : Nat} (h : n ≤ LIM) : n ≤ sizeLine := Nat.le_trans h (by decide)
theorem lim' {n : Nat} (h : n ≤ LIM) : n < sizeLine := Nat.lt_of_le_of_lt h (by decide)
def rAddU : R2 := fun x y H Q => (rI0 fun i j => .int (i + j)) x y H Q ∨ (rCat x y H Q ∨ (fun x y H Q => ∃ i j, x = V.str i ∧ y = V.str j ∧ i.length + j.length ≤ sizeLine ∧ Q (.str (i ++ j)) H) x y H Q)
theorem op_addU : OpR X (binaryOp .Add) rAddU := .or op_add (.or op_cat op_add_str)
theorem k_add : OpOk .cn .cn K rAddU oAdd := fun Hz H x y d1 d2 Q e h1 h2 q => by
  unfold oAdd at q
  split at q
  · exact .inl ⟨_, _, Cn.int_inv h1, Cn.int_inv h2, pv_int e q⟩
  · rename_i a b
    split at q
    · rename_i hl
      obtain ⟨p, xs, rfl, hp, rp⟩ := Cn.lst_inv h1 e
      obtain ⟨p', ys, rfl, hp', rp'⟩ := Cn.lst_inv h2 e
      exact .inr (.inl ⟨p, p', xs, ys, rfl, rfl, hp, hp', lim (by rw [rp.length, rp'.length]; exact hl), fun l hl => pv_ow e q hl (rp.append rp')⟩)
    · exact q.elim
  · split at q
    · rename_i hl
      exact .inr (.inr ⟨_, _, Cn.str_inv h1, Cn.str_inv h2, lim hl, pv_str e q⟩)
    · exact q.elim
  · exact q.elim
theorem k_sub : OpOk .rd .rd K (rI0 fun i j => .int (i - j)) oSub := fun Hz H x y d1 d2 Q e h1 h2 q => by
  unfold oSub at q
  split at q
  · exact ⟨_, _, Rp.int_inv h1, Rp.int_inv h2, pv_int e q⟩
  · exact q.elim
def rMulU : R2 := fun x y H Q => (rI CMul fun i j => .int (i * j)) x y H Q ∨ rRep x y H Q
theorem op_mulU : OpR X (binaryOp .Mult) rMulU := .or op_mul op_rep
theorem k_mul : OpOk .cn .rd K rMulU oMul := fun Hz H x y d1 d2 Q e h1 h2 q => by
  unfold oMul at q
  split at q
  · split at q
    · rename_i hc
      exact .inl ⟨_, _, Cn.int_inv h1, Rp.int_inv h2, by
        have e64 : (2 : Int) ^ 64 = 18446744073709551616 := by decide
        unfold CMul
        rw [e64]
        exact hc, pv_int e q⟩
    · exact q.elim
  · rename_i a k
    split at q
    · rename_i hc
      obtain ⟨h1k, h2k, h3k⟩ := hc
      obtain ⟨p, xs, rfl, hp, rp⟩ := Cn.lst_inv h1 e
      refine .inr ⟨p, k, xs, rfl, Rp.int_inv h2, hp, by omega, by omega, lim (by rw [rp.length]; exact h2k), fun l hl => pv_ow e q hl (rp.rep _)⟩
    · exact q.elim
  · exact q.elim
theorem k_mod : OpOk .rd .rd K (rI (fun _ j => 0 < j) fun i j => .int (i % j)) oMod := fun Hz H x y d1 d2 Q e h1 h2 q => by
  unfold oMod at q
  split at q
  · split at q
    · rename_i hc
      exact ⟨_, _, Rp.int_inv h1, Rp.int_inv h2, hc, pv_int e q⟩
    · exact q.elim
  · exact q.elim
theorem k_div : OpOk .rd .rd K (rI CDiv fun i j => .int (i / j)) oDiv := fun Hz H x y d1 d2 Q e h1 h2 q => by
  unfold oDiv at q
  split at q
  · split at q
    · rename_i hc
      exact ⟨_, _, Rp.int_inv h1, Rp.int_inv h2, hc, pv_int e q⟩
    · exact q.elim
  · exact q.elim
theorem k_pow : OpOk .rd .rd K (rI CPow fun i j => .int (i ^ j.toNat)) oPow := fun Hz H x y d1 d2 Q e h1 h2 q => by
  unfold oPow at q
  split at q
  · split at q
    · rename_i hc
      exact ⟨_, _, Rp.int_inv h1, Rp.int_inv h2, ⟨hc.1, by have := hc.2.1; omega, by have := hc.2.2; omega⟩, pv_int e q⟩
    · exact q.elim
  · exact q.elim
theorem k_neg : UnOk .rd K (rU fun i => .int (-i)) oNeg := fun Hz H x d1 Q e h1 q => by
  unfold oNeg at q
  split at q
  · exact ⟨_, Rp.int_inv h1, pv_int e q⟩
  · exact q.elim
theorem k_lt : OpOk .rd .rd K (rI0 fun i j => .bl (decide (i < j))) oLt := fun Hz H x y d1 d2 Q e h1 h2 q => by
  unfold oLt at q
  split at q
  · exact ⟨_, _, Rp.int_inv h1, Rp.int_inv h2, pv_bl e q⟩
  · exact q.elim
theorem k_le : OpOk .rd .rd K (rI0 fun i j => .bl (decide (i ≤ j))) oLe := fun Hz H x y d1 d2 Q e h1 h2 q => by
  unfold oLe at q
  split at q
  · exact ⟨_, _, Rp.int_inv h1, Rp.int_inv h2, pv_bl e q⟩
  · exact q.elim
theorem k_gt : OpOk .rd .rd K (rI0 fun i j => .bl (decide (j < i))) oGt := fun Hz H x y d1 d2 Q e h1 h2 q => by
  unfold oGt at q
  split at q
  · exact ⟨_, _, Rp.int_inv h1, Rp.int_inv h2, pv_bl e q⟩
  · exact q.elim
theorem k_ge : OpOk .rd .rd K (rI0 fun i j => .bl (decide (j ≤ i))) oGe := fun Hz H x y d1 d2 Q e h1 h2 q => by
  unfold oGe at q
  split at q
  · exact ⟨_, _, Rp.int_inv h1, Rp.int_inv h2, pv_bl e q⟩
  · exact q.elim
theorem k_eq : OpOk .rd .rd K (rEqD K) oEq := fun Hz H x y d1 d2 Q e h1 h2 q => by
  unfold oEq at q
  split at q
  · rename_i hc
    exact ⟨d1, d2, Rp.dp h1 (SeqAt.canLay_of_shaped hc.1), Rp.dp h2 (SeqAt.canLay_of_shaped hc.2), hc.1, hc.2, pv_bl e q⟩
  · exact q.elim
theorem k_ne : OpOk .rd .rd K (rNeD K) oNe := fun Hz H x y d1 d2 Q e h1 h2 q => by
  unfold oNe at q
  split at q
  · rename_i hc
    exact ⟨d1, d2, Rp.dp h1 (SeqAt.canLay_of_shaped hc.1), Rp.dp h2 (SeqAt.canLay_of_shaped hc.2), hc.1, hc.2, pv_bl e q⟩
  · exact q.elim
theorem isNone_eq {v : V} {d : D} (h : Rp K H v d) : decide (v = .non) = isNone d := by
  cases h <;> simp [isNone, scrD]
def rIsU : R2 := fun x y H Q => (y = .non ∧ Q (.bl (decide (x = .non))) H) ∨ rIsB x y H Q
def rIsNU : R2 := fun x y H Q => (y = .non ∧ Q (.bl (!decide (x = .non))) H) ∨ rNotB x y H Q
theorem op_isU : OpR X (compareOp .Is) rIsU := .or op_isN op_isBl
theorem op_isNU : OpR X (compareOp .IsNot) rIsNU := .or op_notN op_notBl
theorem k_is : OpOk .rd .rd K rIsU oIs := fun Hz H x y d1 d2 Q e h1 h2 q => by
  unfold oIs at q
  split at q
  · exact .inl ⟨Rp.non_inv h2, by rw [isNone_eq h1]; exact pv_bl e q⟩
  · exact .inr ⟨_, _, Rp.bl_inv h1, Rp.bl_inv h2, pv_bl e q⟩
  · exact q.elim
theorem k_isn : OpOk .rd .rd K rIsNU oIsNot := fun Hz H x y d1 d2 Q e h1 h2 q => by
  unfold oIsNot at q
  split at q
  · exact .inl ⟨Rp.non_inv h2, by rw [isNone_eq h1]; exact pv_bl e q⟩
  · exact .inr ⟨_, _, Rp.bl_inv h1, Rp.bl_inv h2, pv_bl e q⟩
  · exact q.elim
theorem ints_eq : ∀ {ds : List D} {ns : List Int}, ints? ds = some ns → ds = ns.map .int
  | [], ns, h => by cases h; rfl
  | .int i :: r, ns, h => by
    simp only [ints?] at h
    cases e : ints? r with
    | none => rw [e] at h; cases h
    | some ms => rw [e] at h; cases h; rw [ints_eq e]; rfl
  | .none :: _, _, h => nomatch h
  | .bool _ :: _, _, h => nomatch h
  | .str _ :: _, _, h => nomatch h
  | .list _ :: _, _, h => nomatch h
  | .tuple _ :: _, _, h => nomatch h
  | .dict _ :: _, _, h => nomatch h
theorem ints_map : ∀ (ns : List Int), ints? (ns.map .int) = some ns
  | [] => rfl
  | n :: ns => by simp only [List.map_cons, ints?, ints_map ns, Option.map_some]
theorem flat_ints (ns : List Int) : (ns.map V.int).all flatV = true := by
  rw [List.all_map]
  exact List.all_eq_true.mpr fun _ _ => rfl
theorem inV_ints (i : Int) (ns : List Int) : inV (.int i) (ns.map V.int) = decide (i ∈ ns) := by
  unfold inV
  rw [List.any_map, Bool.eq_iff_iff, List.any_eq_true, decide_eq_true_iff]
  constructor
  · rintro ⟨x, hx, h⟩
    have h' : (x == i) = true := h
    rw [beq_iff_eq] at h'; subst h'; exact hx
  · intro h
    exact ⟨i, h, (beq_self_eq_true i : (i == i) = true)⟩
def rInU (K : PySem.W.Frag) : R2 := fun x y H Q => rInD K x y H Q ∨ (rIn K false x y H Q ∨ (fun x y H Q => ∃ (c : Nat) (z : Str), x = V.str ⟨#[c]⟩ ∧ y = V.str z ∧ Q (.bl (decide (c ∈ z.cps.toList))) H) x y H Q)
def rNotInU (K : PySem.W.Frag) : R2 := fun x y H Q => rNotInD K x y H Q ∨ (rIn K true x y H Q ∨ (fun x y H Q => ∃ (c : Nat) (z : Str), x = V.str ⟨#[c]⟩ ∧ y = V.str z ∧ Q (.bl (!decide (c ∈ z.cps.toList))) H) x y H Q)
theorem op_inU (hu : X.A.units + 65 < cLine) : OpR X (compareOp .In) (rInU X.K) := .or (op_inD hu) (.or op_in_seq op_in_sign)
theorem op_notInU (hu : X.A.units + 65 < cLine) : OpR X (compareOp .NotIn) (rNotInU X.K) := .or (op_notInD hu) (.or op_notIn_seq op_notIn_sign)
theorem str_one {x : Str} {c : Nat} (h : x.cps.toList = [c]) : x = ⟨#[c]⟩ := by
  cases x with
  | mk cps =>
    congr
    apply Array.ext'
    rw [h]
theorem k_in : OpOk .rd .rd K (rInU K) oIn := fun Hz H x y d1 d2 Q e h1 h2 q => by
  unfold oIn at q
  split at q
  · rename_i ds
    split at q
    · rename_i hc
      exact .inl ⟨d1, ds, Rp.dp h1 (SeqAt.canLay_of_shaped hc.1), Rp.dp h2 (SeqAt.canLay_of_shaped hc.2), hc.1, hc.2, pv_bl e q⟩
    · exact q.elim
  · rename_i i ds
    split at q
    · rename_i ns hn
      have := ints_eq hn
      subst this
      obtain ⟨p, xs, rfl, hp, rp⟩ := Rp.tup_inv h2
      have := rp.ints_inv
      subst this
      have := Rp.int_inv h1
      subst this
      exact .inr (.inl ⟨p, _, rfl, .inr (SqT.of hp), rfl, flat_ints ns, by
        show Q (.bl (inV (.int i) (ns.map V.int))) H
        rw [inV_ints]; exact pv_bl e q⟩)
    · exact q.elim
  · rename_i a b
    split at q
    · rename_i c hc
      have := str_one hc
      subst this
      exact .inr (.inr ⟨c, b, Rp.str_inv h1, Rp.str_inv h2, pv_bl e q⟩)
    · exact q.elim
  · exact q.elim
theorem k_notin : OpOk .rd .rd K (rNotInU K) oNotIn := fun Hz H x y d1 d2 Q e h1 h2 q => by
  unfold oNotIn oIn at q
  split at q
  · rename_i ds
    split at q
    · rename_i hc
      exact .inl ⟨d1, ds, Rp.dp h1 (SeqAt.canLay_of_shaped hc.1), Rp.dp h2 (SeqAt.canLay_of_shaped hc.2), hc.1, hc.2, pv_bl e q⟩
    · exact q.elim
  · rename_i i ds
    split at q
    · rename_i ns hn
      have := ints_eq hn
      subst this
      obtain ⟨p, xs, rfl, hp, rp⟩ := Rp.tup_inv h2
      have := rp.ints_inv
      subst this
      have := Rp.int_inv h1
      subst this
      exact .inr (.inl ⟨p, _, rfl, .inr (SqT.of hp), rfl, flat_ints ns, by
        show Q (.bl (!inV (.int i) (ns.map V.int))) H
        rw [inV_ints]; exact pv_bl e q⟩)
    · exact q.elim
  · rename_i a b
    split at q
    · rename_i c hc
      have := str_one hc
      subst this
      exact .inr (.inr ⟨c, b, Rp.str_inv h1, Rp.str_inv h2, pv_bl e q⟩)
    · exact q.elim
  · exact q.elim
theorem RpAll.atI {vs : List V} {ds : List D} {i : Int} {d : D} (r : RpAll K H vs ds) (h : L2.atI ds i = some d) : ∃ v, L2.atI vs i = some v ∧ Rp K H v d := by
  unfold L2.atI at h ⊢
  rw [r.length]
  cases e : ixN ds.length i with
  | none => rw [e] at h; cases h
  | some j =>
    rw [e] at h
    exact r.get h
theorem atI_map {α β : Type} (f : α → β) (l : List α) (i : Int) : L2.atI (l.map f) i = (L2.atI l i).map f := by
  unfold L2.atI
  rw [List.length_map]
  cases ixN l.length i with
  | none => rfl
  | some j => simp
theorem Rp.dict_inv {v : V} {kvs : List (D × D)} (h : Rp K H v (.dict kvs)) : ∃ (a : Addr) (ns : List Int), v = .ref a ∧ SqL K H a (ns.map V.int) ∧ kvs = ns.map fun n => (.int n, .none) := by
  cases h with
  | scr h => exact ⟨_, _, rfl, h, rfl⟩
theorem Cn.dict_inv {v : V} {kvs : List (D × D)} (h : Cn K Hz H v (.dict kvs)) (e : Ex Hz H) : ∃ (a : Addr) (ns : List Int), v = .ref a ∧ SqL K H a (ns.map V.int) ∧ kvs = ns.map fun n => (.int n, .none) := Rp.dict_inv (h.rp e)
theorem k_idx : OpOk .cn .rd K (rIx K) oIdx := fun Hz H x y d1 d2 Q e h1 h2 q => by
  unfold oIdx at q
  split at q
  · rename_i ds i
    split at q
    · rename_i d hd
      obtain ⟨p, xs, rfl, hp, rp⟩ := Cn.lst_inv h1 e
      obtain ⟨v, hv, rv⟩ := rp.atI hd
      exact .inl ⟨p, xs, i, v, rfl, Rp.int_inv h2, SqL.of hp, hv, pv_sh e q rv⟩
    · exact q.elim
  · rename_i ds i
    split at q
    · rename_i d hd
      obtain ⟨p, xs, rfl, hp, rp⟩ := Cn.tup_inv h1
      obtain ⟨v, hv, rv⟩ := rp.atI hd
      exact .inr (.inl ⟨p, xs, i, v, rfl, Rp.int_inv h2, SqT.of (e _ _ hp), hv, pv_sh e q rv⟩)
    · exact q.elim
  · rename_i a i
    split at q
    · rename_i hl
      split at q
      · rename_i c hc
        exact .inr (.inr ⟨a, i, c, Cn.str_inv h1, Rp.int_inv h2, lim hl, hc, pv_str e q⟩)
      · exact q.elim
    · exact q.elim
  · rename_i kvs i
    split at q
    · rename_i d hd
      obtain ⟨p, ns, rfl, hp, rfl⟩ := Cn.dict_inv h1 e
      rw [List.map_map, atI_map] at hd
      cases hn : L2.atI ns i with
      | none => rw [hn] at hd; cases hd
      | some n =>
        rw [hn] at hd; cases hd
        exact .inl ⟨p, _, i, .int n, rfl, Rp.int_inv h2, hp, by rw [atI_map, hn]; rfl, pv_int e q⟩
    · exact q.elim
  · exact q.elim
theorem paired1 {α β : Type} {F : α → β → Prop} {l : List α} {y : β} (h : Paired F l [y]) : ∃ x, l = [x] ∧ F x y := by
  cases h with
  | cons r t => cases t; exact ⟨_, rfl, r⟩
theorem paired2 {α β : Type} {F : α → β → Prop} {l : List α} {y z : β} (h : Paired F l [y, z]) : ∃ x x', l = [x, x'] ∧ F x y ∧ F x' z := by
  cases h with
  | cons r t =>
    obtain ⟨x', e, r'⟩ := paired1 t
    subst e
    exact ⟨_, _, rfl, r, r'⟩
def rLenU (K : PySem.W.Frag) : List V → Hp → VK → Prop := fun xs H Q => (∃ p ys, xs = [V.ref p] ∧ (SqL K H p ys ∨ SqT K H p ys) ∧ Q (.int ys.length) H) ∨ (∃ z : Str, xs = [V.str z] ∧ z.length ≤ sizeLine ∧ Q (.int z.length) H)
theorem call_lenU : CallR X (.builtin "len") (rLenU X.K) := .or call_len_seq call_len_str
theorem k_len : CaOk .rd K (rLenU K) oLen := fun Hz H xs ds Q e h q => by
  unfold oLen at q
  split at q
  · obtain ⟨x, rfl, r⟩ := paired1 h
    obtain ⟨p, ys, rfl, hp, rp⟩ := Rp.lst_inv r
    exact .inl ⟨p, ys, rfl, .inl (SqL.of hp), by rw [rp.length]; exact pv_int e q⟩
  · obtain ⟨x, rfl, r⟩ := paired1 h
    obtain ⟨p, ys, rfl, hp, rp⟩ := Rp.tup_inv r
    exact .inl ⟨p, ys, rfl, .inr (SqT.of hp), by rw [rp.length]; exact pv_int e q⟩
  · obtain ⟨x, rfl, r⟩ := paired1 h
    split at q
    · rename_i hl
      exact .inr ⟨_, by rw [Rp.str_inv r], lim hl, pv_int e q⟩
    · exact q.elim
  · obtain ⟨x, rfl, r⟩ := paired1 h
    obtain ⟨p, ns, rfl, hp, rfl⟩ := Rp.dict_inv r
    rw [List.length_map] at q
    exact .inl ⟨p, _, rfl, .inl hp, by rw [List.length_map]; exact pv_int e q⟩
  · exact q.elim
theorem k_max : CaOk .rd K (rMax K) oMax := fun Hz H xs ds Q e h q => by
  unfold oMax at q
  split at q
  · split at q
    · rename_i ns hn
      split at q
      · rename_i m hm
        have := ints_eq hn
        subst this
        obtain ⟨x, rfl, r⟩ := paired1 h
        obtain ⟨p, ys, rfl, hp, rp⟩ := Rp.lst_inv r
        have := rp.ints_inv
        subst this
        obtain ⟨h1, h2⟩ := List.max?_eq_some_iff.mp hm
        refine ⟨p, ns, rfl, SqL.of hp, List.length_pos_of_mem h1, fun m' h3 h4 => ?_⟩
        have : m' = m := Int.le_antisymm (h2 _ h3) (h4 _ h1)
        rw [this]; exact pv_int e q
      · exact q.elim
    · exact q.elim
  · exact q.elim
theorem k_max2 : CaOk .rd K (fun xs H Q => ∃ i j, xs = [V.int i, V.int j] ∧ Q (.int (if j > i then j else i)) H) oMax2 := fun Hz H xs ds Q e h q => by
  unfold oMax2 at q
  split at q
  · obtain ⟨x, y, rfl, r1, r2⟩ := paired2 h
    exact ⟨_, _, by rw [Rp.int_inv r1, Rp.int_inv r2], pv_int e q⟩
  · exact q.elim
theorem k_min2 : CaOk .rd K (fun xs H Q => ∃ i j, xs = [V.int i, V.int j] ∧ Q (.int (if j < i then j else i)) H) oMin2 := fun Hz H xs ds Q e h q => by
  unfold oMin2 at q
  split at q
  · obtain ⟨x, y, rfl, r1, r2⟩ := paired2 h
    exact ⟨_, _, by rw [Rp.int_inv r1, Rp.int_inv r2], pv_int e q⟩
  · exact q.elim
theorem k_sum : CaOk .rd K (rSum K) oSum := fun Hz H xs ds Q e h q => by
  unfold oSum at q
  split at q
  · split at q
    · rename_i ns hn
      have := ints_eq hn
      subst this
      obtain ⟨x, rfl, r⟩ := paired1 h
      obtain ⟨p, ys, rfl, hp, rp⟩ := Rp.lst_inv r
      have := rp.ints_inv
      subst this
      exact ⟨p, ns, rfl, SqL.of hp, pv_int e q⟩
    · exact q.elim
  · exact q.elim
theorem ins_perm (x : Int) : ∀ l : List Int, (ins x l).Perm (x :: l)
  | [] => .refl _
  | y :: r => by
    unfold ins
    split
    · exact .refl _
    · exact ((ins_perm x r).cons y).trans (List.Perm.swap x y r)
theorem isort_perm : ∀ l : List Int, (isort l).Perm l
  | [] => .refl _
  | x :: r => (ins_perm x _).trans ((isort_perm r).cons x)
theorem ins_mem {x y : Int} {l : List Int} : y ∈ ins x l ↔ y = x ∨ y ∈ l := by
  rw [(ins_perm x l).mem_iff, List.mem_cons]
theorem ins_sorted (x : Int) : ∀ l : List Int, l.Pairwise (· ≤ ·) → (ins x l).Pairwise (· ≤ ·)
  | [], _ => by simp [ins]
  | y :: r, h => by
    unfold ins
    rw [List.pairwise_cons] at h
    split
    · rename_i hx
      rw [List.pairwise_cons]
      refine ⟨fun z hz => ?_, List.pairwise_cons.mpr h⟩
      rcases List.mem_cons.mp hz with rfl | hz
      · exact hx
      · exact Int.le_trans hx (h.1 z hz)
    · rename_i hx
      rw [List.pairwise_cons]
      refine ⟨fun z hz => ?_, ins_sorted x r h.2⟩
      rcases ins_mem.mp hz with rfl | hz
      · omega
      · exact h.1 z hz
theorem isort_sorted : ∀ l : List Int, (isort l).Pairwise (· ≤ ·)
  | [] => .nil
  | x :: r => ins_sorted x _ (isort_sorted r)
theorem sorted_unique : ∀ {l m : List Int}, l.Perm m → l.Pairwise (· ≤ ·) → m.Pairwise (· ≤ ·) → l = m
  | [], m, h, _, _ => by rw [List.Perm.nil_eq h]
  | x :: l, [], h, _, _ => by simp at h
  | x :: l, y :: m, h, h1, h2 => by
    rw [List.pairwise_cons] at h1 h2
    have e : x = y := by
      have hx : x ∈ y :: m := h.mem_iff.mp List.mem_cons_self
      have hy : y ∈ x :: l := h.mem_iff.mpr List.mem_cons_self
      rcases List.mem_cons.mp hx with e | hx
      · exact e
      · rcases List.mem_cons.mp hy with e | hy
        · exact e.symm
        · exact Int.le_antisymm (h1.1 y hy) (h2.1 x hx)
    subst e
    rw [sorted_unique (List.Perm.cons_inv h) h1.2 h2.2]
theorem isort_of {l m : List Int} (h : l.Perm m) (h1 : l.Pairwise (· ≤ ·)) : l = isort m := sorted_unique (h.trans (isort_perm m).symm) h1 (isort_sorted m)
theorem k_sorted : CaOk .rd K (rSorted K) oSorted := fun Hz H xs ds Q e h q => by
  unfold oSorted at q
  split at q
  · split at q
    · rename_i ns hn
      split at q
      · rename_i hl
        have := ints_eq hn
        subst this
        obtain ⟨x, rfl, r⟩ := paired1 h
        obtain ⟨p, ys, rfl, hp, rp⟩ := Rp.lst_inv r
        have := rp.ints_inv
        subst this
        refine ⟨p, ns, rfl, SqL.of hp, hl, fun ns' l h1 h2 hn => ?_⟩
        rw [isort_of h1 h2]
        exact pv_ow e q hn (RpAll.ints _)
      · exact q.elim
    · exact q.elim
  · exact q.elim
theorem k_list : CaOk .cn K (fun xs H Q => ∃ p ys, xs = [V.ref p] ∧ (SqL K H p ys ∨ SqT K H p ys) ∧ ∀ l, H l = none → Q (.ref l) (upd H l (.lst ys))) oList := fun Hz H xs ds Q e h q => by
  unfold oList at q
  split at q
  · obtain ⟨x, rfl, r⟩ := paired1 h
    obtain ⟨p, ys, rfl, hp, rp⟩ := Cn.lst_inv r e
    exact ⟨p, ys, rfl, .inl (SqL.of hp), fun l hl => pv_ow e q hl rp⟩
  · obtain ⟨x, rfl, r⟩ := paired1 h
    obtain ⟨p, ys, rfl, hp, rp⟩ := Cn.tup_inv r
    exact ⟨p, ys, rfl, .inr (SqT.of (e _ _ hp)), fun l hl => pv_ow e q hl rp⟩
  · exact q.elim
theorem k_intB : CaOk .rd K (fun xs H Q => (∃ i, xs = [V.int i] ∧ Q (.int i) H) ∨ ∃ k, xs = [V.bl k] ∧ Q (.int (if k then 1 else 0)) H) oIntB := fun Hz H xs ds Q e h q => by
  unfold oIntB at q
  split at q
  · obtain ⟨x, rfl, r⟩ := paired1 h
    exact .inr ⟨_, by rw [Rp.bl_inv r], pv_int e q⟩
  · obtain ⟨x, rfl, r⟩ := paired1 h
    exact .inl ⟨_, by rw [Rp.int_inv r], pv_int e q⟩
  · exact q.elim
theorem k_strI : CaOk .rd K (fun xs H Q => ∃ i, xs = [V.int i] ∧ i.natAbs.log2 < 1920 ∧ Q (.str (toString i)) H) oStrI := fun Hz H xs ds Q e h q => by
  unfold oStrI at q
  split at q
  · split at q
    · rename_i i hl
      obtain ⟨x, rfl, r⟩ := paired1 h
      refine ⟨_, by rw [Rp.int_inv r], ?_, pv_str e q⟩
      have : i.natAbs.log2 ≤ i.natAbs := Nat.log2_le_self _
      have h3 : i.natAbs.log2 < 20 := by
        by_cases h0 : i.natAbs = 0
        · rw [h0]; decide
        · exact (Nat.log2_lt h0).mpr (by omega)
      omega
    · exact q.elim
  · exact q.elim
end
end Sh

/-! ## Part E: tests, displays, slices, what is walked, comprehensions -/
namespace Sh
open PySem PySem.Spec PyProof.Rows L2

section
variable {X : Cx} {A : Nat → Addr} {W : WX} {a b c e : Expr} {es rest : List Expr} {k k1 k2 k3 : Kd} {pos : Pos} {fa fb : Sg → Rs D}
/-! ### not, and, or, if .. else -/
def tN (f : Sg → Rs Bool) : Sg → Rs Bool := fun S => (f S).bind fun b => .ok (!b)
def tAn (f g : Sg → Rs Bool) : Sg → Rs Bool := fun S => (f S).bind fun b => if b = true then g S else .ok false
def tOr' (f g : Sg → Rs Bool) : Sg → Rs Bool := fun S => (f S).bind fun b => if b = true then .ok true else g S
theorem et_not {f : Sg → Rs Bool} (h : ET X A W a f) : ET X A W (.UnaryOp .Not a pos) (tN f) := PT.imp (pt_not h) fun σ H Q ⟨Z0, H0, Hz, S, m, q⟩ =>
  ⟨Z0, H0, Hz, S, m, PR.bind q fun b q => q⟩
theorem ew_and1 {f : Sg → Rs Bool} (h : ET X A W a f) : EW X A W (.BoolOp .And [a] pos) f := pw_and1 h
theorem ew_or1 {f : Sg → Rs Bool} (h : ET X A W a f) : EW X A W (.BoolOp .Or [a] pos) f := pw_or1 h
theorem ew_and {f g : Sg → Rs Bool} (h : ET X A W a f) (h' : EW X A W (.BoolOp .And (b :: rest) pos) g) : EW X A W (.BoolOp .And (a :: b :: rest) pos) (tAn f g) := PW.imp (pw_and h h') fun σ H Q ⟨Z0, H0, Hz, S, m, q⟩ => by
  refine ⟨Z0, H0, Hz, S, m, PR.bind q fun b q => ?_⟩
  intro Hz' H' st
  cases b with
  | true => exact ⟨Z0, H0, Hz', S, m.stp st, q.stp st fun _ q => q.stp st⟩
  | false => exact q Hz' H' st
theorem ew_or {f g : Sg → Rs Bool} (h : ET X A W a f) (h' : EW X A W (.BoolOp .Or (b :: rest) pos) g) : EW X A W (.BoolOp .Or (a :: b :: rest) pos) (tOr' f g) := PW.imp (pw_or h h') fun σ H Q ⟨Z0, H0, Hz, S, m, q⟩ => by
  refine ⟨Z0, H0, Hz, S, m, PR.bind q fun b q => ?_⟩
  intro Hz' H' st
  cases b with
  | false => exact ⟨Z0, H0, Hz', S, m.stp st, q.stp st fun _ q => q.stp st⟩
  | true => exact q Hz' H' st
theorem et_w {f : Sg → Rs Bool} (h : EW X A W e f) : ET X A W e f := PW.pt h
/-- and, or, not as values: all but the last a bool -/
def fAn (f g : Sg → Rs Sl) : Sg → Rs Sl := fun S => (f S).tb.bind fun b => if b = true then g S else okB false
def fOr (f g : Sg → Rs Sl) : Sg → Rs Sl := fun S => (f S).tb.bind fun b => if b = true then okB true else g S
def fN (f : Sg → Rs Sl) : Sg → Rs Sl := fun S => (f S).tb.bind fun b => okB (!b)
theorem ex_one {op} {f : Sg → Rs Sl} (h : EX X A W a f) : EX X A W (.BoolOp op [a] pos) f := pe_one h
theorem ex_and {f g : Sg → Rs Sl} (h : EX X A W a f) (h' : EX X A W (.BoolOp .And (b :: rest) pos) g) : EX X A W (.BoolOp .And (a :: b :: rest) pos) (fAn f g) := PE.imp (pe_and h h') fun σ H Q ⟨Z0, H0, Hz, S, m, q⟩ => by
  refine tb_core (f := f) (Q := fun c H1 => if c = true then tX X.K A W g σ H1 Q else Q (.bl false) H1) ⟨Z0, H0, Hz, S, m, PR.bind q fun b q => ?_⟩
  intro Hz' H' st
  cases b with
  | true => exact ⟨Z0, H0, Hz', S, m.stp st, q.stp st fun _ q => q.stp st⟩
  | false => exact pv_bl st.sub (PV.stp q st)
theorem ex_or {f g : Sg → Rs Sl} (h : EX X A W a f) (h' : EX X A W (.BoolOp .Or (b :: rest) pos) g) : EX X A W (.BoolOp .Or (a :: b :: rest) pos) (fOr f g) := PE.imp (pe_or h h') fun σ H Q ⟨Z0, H0, Hz, S, m, q⟩ => by
  refine tb_core (f := f) (Q := fun c H1 => if c = true then Q (.bl true) H1 else tX X.K A W g σ H1 Q) ⟨Z0, H0, Hz, S, m, PR.bind q fun b q => ?_⟩
  intro Hz' H' st
  cases b with
  | false => exact ⟨Z0, H0, Hz', S, m.stp st, q.stp st fun _ q => q.stp st⟩
  | true => exact pv_bl st.sub (PV.stp q st)
theorem ex_not {f : Sg → Rs Sl} (h : EX X A W a f) : EX X A W (.UnaryOp .Not a pos) (fN f) := PE.imp (pe_not h) fun σ H Q ⟨Z0, H0, Hz, S, m, q⟩ => by
  refine tb_core (f := f) (Q := fun c H1 => Q (.bl (!c)) H1) ⟨Z0, H0, Hz, S, m, PR.bind q fun b q => ?_⟩
  intro Hz' H' st
  exact pv_bl st.sub (PV.stp q st)
def fIf {α : Type} (t : Sg → Rs Bool) (f g : Sg → Rs α) : Sg → Rs α := fun S => (t S).bind fun b => if b = true then f S else g S
theorem ex_if {t : Sg → Rs Bool} {f g : Sg → Rs Sl} (ht : ET X A W c t) (h : EX X A W a f) (h' : EX X A W b g) : EX X A W (.IfExp c a b pos) (fIf t f g) := PE.imp (pe_ifExp ht h h') fun σ H Q ⟨Z0, H0, Hz, S, m, q⟩ => by
  refine ⟨Z0, H0, Hz, S, m, PR.bind q fun b q Hz' H' st => ?_⟩
  cases b with
  | true => exact ⟨Z0, H0, Hz', S, m.stp st, q.stp st fun _ q => q.stp st⟩
  | false => exact ⟨Z0, H0, Hz', S, m.stp st, q.stp st fun _ q => q.stp st⟩
theorem ek_if {t : Sg → Rs Bool} {f g : Sg → Rs D} (ht : ET X A W c t) (h : EK X A W k a f) (h' : EK X A W k b g) : EK X A W k (.IfExp c a b pos) (fIf t f g) := PE.imp (pe_ifExp ht h h') fun σ H Q ⟨Z0, H0, Hz, S, m, q⟩ => by
  refine ⟨Z0, H0, Hz, S, m, PR.bind q fun b q Hz' H' st => ?_⟩
  cases b with
  | true => exact ⟨Z0, H0, Hz', S, m.stp st, q.stp st fun _ q => q.stp st⟩
  | false => exact ⟨Z0, H0, Hz', S, m.stp st, q.stp st fun _ q => q.stp st⟩

/-! ### displays -/
def fLst (f : Sg → Rs (List D)) : Sg → Rs Sl := fun S => (f S).bind fun ds => if ds.length ≤ LIM then .ok (.ow ds) else .no
def fTup (f : Sg → Rs (List D)) : Sg → Rs D := fun S => (f S).bind fun ds => if ds.length ≤ LIM then .ok (.tuple ds) else .no
theorem ex_lst {f : Sg → Rs (List D)} (h : EA X A W .st es f) : EX X A W (.List es pos) (fLst f) := PE.imp (pe_lst h) fun σ H Q ⟨Z0, H0, Hz, S, m, q⟩ => by
  refine ⟨Z0, H0, Hz, S, m, PR.bind q fun ds q vs Hz' H' st r => ?_⟩
  split at q
  · rename_i hl
    have rr := KAll.all r
    exact ⟨lim (by rw [rr.length]; exact hl), fun p hp => pv_ow st.sub (PV.stp q st) hp rr⟩
  · exact q.elim
theorem et_tup {x1} {f : Sg → Rs (List D)} (h : EA X A W .st es f) : EK X A W .st (.Tuple es x1 pos) (fTup f) := PE.imp (pe_tup h) fun σ H Q ⟨Z0, H0, Hz, S, m, q⟩ => by
  refine ⟨Z0, H0, Hz, S, m, PR.bind q fun ds q vs Hz' H' st r => ?_⟩
  split at q
  · rename_i hl
    have rr := KAll.all r
    refine ⟨lim (by rw [rr.length]; exact hl), fun p hp => ?_⟩
    have s2 := Stp.frz (o := .tup vs) st.sub hp
    exact q _ _ _ (st.trans s2) (.tup upd_same (rr.mono s2.exz))
  · exact q.elim
/-- [e], e a new list: a list of one list, both of the own -/
def fLst2 (f : Sg → Rs Sl) : Sg → Rs Sl := fun S => (f S).bind fun s => match s with
  | .ow ds => .ok (.o2 [ds])
  | _ => .no
theorem ex_lst2 {f : Sg → Rs Sl} (h : EX X A W e f) (hs : starEach (e :: []) X.env = (false, eval e X.env) :: starEach [] X.env := by rfl) : EX X A W (.List [e] pos) (fLst2 f) := PE.imp (pe_lst (pa_cons h pa_nil hs)) fun σ H Q ⟨Z0, H0, Hz, S, m, q⟩ => by
  refine ⟨Z0, H0, Hz, S, m, PR.bind q fun s q v Hz' H' st sr fr => ?_⟩
  split at q
  · rename_i ds
    obtain ⟨a, xs, ev, h, z, r⟩ := sr
    cases ev
    refine ⟨by show 1 ≤ sizeLine; decide, fun p hp => ?_⟩
    have na : H a = none := fr a rfl
    have ne : a ≠ p := ne_of_none h hp
    have s2 := Stp.own (o := .lst [.ref a]) st.sub hp
    refine q (.ref p) _ _ (st.trans s2) ⟨p, [a], rfl, upd_same, by simp, by simpa using ne.symm, st.sub.none hp, .cons ⟨z, xs, by rw [upd_ne ne]; exact h, r⟩ .nil⟩ fun b w => ?_
    rcases w with w | ⟨p', as, w, hh, mm⟩
    · cases w; exact st.ex.none hp
    · cases w
      rw [upd_same] at hh
      injection hh with hh; injection hh with hh
      have := refs_inj (as := [a]) hh
      subst this
      rw [List.mem_singleton] at mm
      subst mm; exact na
  · exact q.elim

/-! ### slices -/
def tO (K : PySem.W.Frag) (A : Nat → Addr) (W : WX) (f : Sg → Rs (Option Int)) : TO := fun σ H Q => ∃ Z0 H0 Hz S, Mt K Z0 H0 Hz H S σ ∧ PR A W σ Hz H (fun o => ∀ Hz' H', Stp Hz H Hz' H' → Q o H') (f S)
abbrev EO (X : Cx) (A : Nat → Addr) (W : WX) (e : Option Expr) (f : Sg → Rs (Option Int)) : Prop := L2.PO X e (tO X.K A W f)
theorem LPO.imp {X : Cx} {e : Option Expr} {t t' : TO} (h : L2.PO X e t) (k : ∀ σ H Q, t' σ H Q → t σ H Q) : L2.PO X e t' := ⟨fun pins s σ H Q I q => h.run pins s σ H Q I (k σ H Q q)⟩
def oNone : Sg → Rs (Option Int) := fun _ => .ok none
def oSome (f : Sg → Rs D) : Sg → Rs (Option Int) := fun S => (f S).bind fun d => match d with
  | .int i => .ok (some i)
  | _ => .no
theorem eo_none : EO X A W none oNone := LPO.imp po_none fun σ H Q ⟨Z0, H0, Hz, S, m, q⟩ => q Hz H (.refl m.st.sub)
theorem eo_some {f : Sg → Rs D} (h : EK X A W k e f) : EO X A W (some e) (oSome f) := LPO.imp (po_some h) fun σ H Q ⟨Z0, H0, Hz, S, m, q⟩ => by
  refine ⟨Z0, H0, Hz, S, m, PR.bind q fun d q v Hz' H' st r => ?_⟩
  split at q
  · exact ⟨_, Rp.int_inv (Kd.read r st.sub), q Hz' H' st⟩
  · exact q.elim
def cutL {α : Type} (xs : List α) (lo hi : Option Int) : List α := (xs.drop (HT.sIx xs.length 0 lo)).take (HT.sIx xs.length xs.length hi - HT.sIx xs.length 0 lo)
def oSl (d : D) (lo hi : Option Int) : Rs Sl :=
  match d with
  | .list ds => .ok (.ow (cutL ds lo hi))
  | .str x => if x.length ≤ LIM then .ok (.sh (.str (cutS x lo hi))) else .no
  | _ => .no
def fSl (f : Sg → Rs D) (l h : Sg → Rs (Option Int)) : Sg → Rs Sl := fun S => (f S).bind fun d => (l S).bind fun lo => (h S).bind fun hi => oSl d lo hi
theorem ex_slice {lo hi : Option Expr} {p2} {f : Sg → Rs D} {fl fh : Sg → Rs (Option Int)} (h : EK X A W .cn e f) (hl : EO X A W lo fl) (hh : EO X A W hi fh) : EX X A W (.Subscript e (.Slice lo hi none p2) pos) (fSl f fl fh) :=
  PE.imp (pe_slice (.or sl_list sl_str) h hl hh) fun σ H Q ⟨Z0, H0, Hz, S, m, q⟩ => by
    refine ⟨Z0, H0, Hz, S, m, PR.bind q fun d q v Hz1 H1 st1 r1 => ?_⟩
    refine ⟨Z0, H0, Hz1, S, m.stp st1, PR.bind (q.stp st1 fun _ q => PV.stp q st1) fun lo q Hz2 H2 st2 => ?_⟩
    refine ⟨Z0, H0, Hz2, S, (m.stp st1).stp st2, PR.bind (q.stp st2 fun _ q => PV.stp q st2) fun hi q Hz3 H3 st3 => ?_⟩
    have q3 := q.stp st3 fun _ q => PV.stp q st3
    have r3 := (r1.stp st2).stp st3
    unfold oSl at q3
    split at q3
    · obtain ⟨p, xs, rfl, hp, rp⟩ := Cn.lst_inv r3 st3.sub
      refine .inl ⟨p, xs, rfl, SqL.of hp, fun l hl => pv_ow st3.sub q3 hl ?_⟩
      unfold cutV cutL
      rw [rp.length]
      exact (rp.drop _).take _
    · split at q3
      · rename_i hl
        exact .inr ⟨_, Cn.str_inv r3, lim hl, pv_str st3.sub q3⟩
      · exact q3.elim
    · exact q3.elim

/-! ### an item that is read now -/
def fIxR (fa fb : Sg → Rs D) : Sg → Rs D := fun S => (fa S).bind fun x => (fb S).bind fun y => oIdxR x y
theorem er_ix (ha : EK X A W .rd a fa) (hb : EK X A W .rd b fb) (hs : PlainIx b) : EK X A W .rd (.Subscript a b pos) (fIxR fa fb) :=
  PE.imp (pe_ix ix_seq ha hb hs) fun σ H Q ⟨Z0, H0, Hz, S, m, q⟩ => by
    refine ⟨Z0, H0, Hz, S, m, PR.bind q fun d q v Hz1 H1 st1 r1 => ?_⟩
    refine ⟨Z0, H0, Hz1, S, m.stp st1, PR.bind (q.stp st1 fun _ q => PK.stp q st1) fun d2 q v2 Hz2 H2 st2 r2 => ?_⟩
    have q2 := q.stp st2 fun _ q => PK.stp q st2
    have r1' : Rp X.K H2 v d := Kd.stp (k := .rd) r1 st2
    have r2' : Rp X.K H2 v2 d2 := r2
    refine k_idx (Q := Q) H2 H2 v v2 d d2 (.refl _) (.inl r1') r2' ?_
    unfold oIdxR at q2
    have nx := n_idx d d2
    cases hg : oIdx d d2 with
    | ex c => exact (nx c hg).elim
    | no => rw [hg] at q2; exact q2.elim
    | ok s =>
      rw [hg, Rs.bind_ok] at q2
      split at q2
      · rename_i d3
        intro v3 Hz3 H3 st3 sr _
        obtain ⟨v', ev, rv⟩ := sr
        cases ev
        refine q2 v3 Hz2 H3 ⟨st3.ex, .refl _, st2.sub.trans st3.ex, fun _ _ _ _ h => h⟩ (rv.mono st3.sub)
      · exact q2.elim

/-! ### what is walked -/
variable {tg : Expr}
def chars (x : Str) : List D := x.cps.toList.map fun c => .str ⟨#[c]⟩
def oItems : D → Rs (List D)
  | .list ds => .ok ds
  | .tuple ds => .ok ds
  | .str x => .ok (chars x)
  | _ => .no
def fItems (f : Sg → Rs D) : Sg → Rs (List D) := fun S => (f S).bind oItems
theorem it_list {K : PySem.W.Frag} {Hz : Hp} {p : Addr} {xs : List V} {ds : List D} (hp : Hz p = some (.lst xs)) (r : RpAll K Hz xs ds) : ItOk K (Itl K p) Hz ds where
  go := fun i H e hi => by
    have hx : i < xs.length := by rw [r.length]; exact hi
    exact ⟨xs, xs[i], SqL.of (e _ _ hp), List.getElem?_eq_getElem hx⟩
  yld := fun i H x H' d e hd y => by
    obtain ⟨e1, h⟩ := y
    obtain ⟨v, hv, rv⟩ := r.get hd
    have := h xs (SqL.of (e _ _ hp))
    rw [hv] at this; cases this
    exact ⟨e1, rv⟩
  stop := fun H e => ⟨xs, SqL.of (e _ _ hp), by rw [r.length]; exact Nat.le_refl _⟩
theorem it_tup {K : PySem.W.Frag} {Hz : Hp} {p : Addr} {xs : List V} {ds : List D} (hp : Hz p = some (.tup xs)) (r : RpAll K Hz xs ds) : ItOk K (Itt K p) Hz ds where
  go := fun i H e hi => by
    have hx : i < xs.length := by rw [r.length]; exact hi
    exact ⟨xs, xs[i], SqT.of (e _ _ hp), List.getElem?_eq_getElem hx⟩
  yld := fun i H x H' d e hd y => by
    obtain ⟨e1, h⟩ := y
    obtain ⟨v, hv, rv⟩ := r.get hd
    have := h xs (SqT.of (e _ _ hp))
    rw [hv] at this; cases this
    exact ⟨e1, rv⟩
  stop := fun H e => ⟨xs, SqT.of (e _ _ hp), by rw [r.length]; exact Nat.le_refl _⟩
theorem chars_len (x : Str) : (chars x).length = x.cps.size := by simp [chars]
theorem it_str {K : PySem.W.Frag} {Hz : Hp} {x : Str} : ItOk K (Its x) Hz (chars x) where
  go := fun i H e hi => by rw [chars_len] at hi; exact hi
  yld := fun i H v H' d e hd y => by
    obtain ⟨e1, c, hc, hv⟩ := y
    subst hv
    have : (chars x)[i]? = some (.str ⟨#[c]⟩) := by
      unfold chars
      rw [List.getElem?_map]
      have : x.cps.toList[i]? = some c := by simpa using hc
      rw [this]; rfl
    rw [this] at hd; cases hd
    exact ⟨e1, .str _⟩
  stop := fun H e => by rw [chars_len]; exact Nat.le_refl _
theorem it_rng {K : PySem.W.Frag} {Hz : Hp} {lo : Int} {n : Nat} : ItOk K (Itr lo n) Hz ((List.range n).map fun i : Nat => .int (lo + i)) where
  go := fun i H e hi => by
    have : i < n := by simpa using hi
    exact this
  yld := fun i H v H' d e hd y => by
    obtain ⟨e1, hv⟩ := y
    subst hv
    rw [List.getElem?_map] at hd
    cases h : (List.range n)[i]? with
    | none => rw [h] at hd; cases hd
    | some j =>
      rw [h] at hd; cases hd
      obtain ⟨h1, h2⟩ := List.getElem?_eq_some_iff.mp h
      rw [List.getElem_range] at h2
      subst h2
      exact ⟨e1, .int _⟩
  stop := fun H e => by
    show n ≤ _
    simp
theorem ix_seq' {f : Sg → Rs D} (h : EK X A W .st e f) : IX X A W tg e (fItems f) := PI.imp (PI.or (pi_list h) (PI.or (pi_tup h) (pi_str h))) fun σ H R ⟨Z0, H0, Hz, S, m, q⟩ => by
  unfold fItems at q
  cases hf : f S with
  | ex c => rw [hf] at q; exact .inl ⟨Z0, H0, Hz, S, m, by rw [hf]; exact q⟩
  | no => rw [hf] at q; exact q.elim
  | ok d =>
    rw [hf, Rs.bind_ok] at q
    cases d with
    | list ds =>
      refine .inl ⟨Z0, H0, Hz, S, m, ?_⟩
      rw [hf]
      intro v Hz' H' st r
      obtain ⟨p, xs, rfl, hp, rp⟩ := Rp.lst_inv r
      exact ⟨p, rfl, ⟨xs, SqL.of (st.sub _ _ hp)⟩, q _ Hz' H' st (it_list hp rp)⟩
    | tuple ds =>
      refine .inr (.inl ⟨Z0, H0, Hz, S, m, ?_⟩)
      rw [hf]
      intro v Hz' H' st r
      obtain ⟨p, xs, rfl, hp, rp⟩ := Rp.tup_inv r
      exact ⟨p, rfl, ⟨xs, SqT.of (st.sub _ _ hp)⟩, q _ Hz' H' st (it_tup hp rp)⟩
    | str x =>
      refine .inr (.inr ⟨Z0, H0, Hz, S, m, ?_⟩)
      rw [hf]
      intro v Hz' H' st r
      exact ⟨x, Rp.str_inv r, q _ Hz' H' st it_str⟩
    | _ => exact q.elim
def oRng1 : List D → Rs (List D)
  | [.int j] => if -1000 ≤ j ∧ j ≤ LIM then .ok ((List.range j.toNat).map fun i : Nat => .int (i : Int)) else .no
  | _ => .no
def oRng2 : List D → Rs (List D)
  | [.int i, .int j] => if (-1000 ≤ i ∧ i ≤ LIM) ∧ (-1000 ≤ j ∧ j ≤ LIM) then .ok ((List.range (j - i).toNat).map fun n : Nat => .int (i + n)) else .no
  | _ => .no
def fRng1 (f : Sg → Rs (List D)) : Sg → Rs (List D) := fun S => (f S).bind oRng1
def fRng2 (f : Sg → Rs (List D)) : Sg → Rs (List D) := fun S => (f S).bind oRng2
theorem limI {j : Int} (h : j ≤ LIM) : j < 2 ^ 62 := by
  have : (LIM : Int) = 10000 := rfl
  omega
theorem ix_range1 {f : Sg → Rs (List D)} {p : Pos} (hg : Gl X "range") (hm : X.mg "range" = none) (ha : EA X A W .rd [a] f) (hs : starEach [a] X.env = [(false, eval a X.env)] := by rfl) : IX X A W tg (.Call (.Name "range" p) [a] [] pos) (fRng1 f) :=
  PI.imp (pi_range1 hg hm ha hs) fun σ H R ⟨Z0, H0, Hz, S, m, q⟩ => by
    refine ⟨Z0, H0, Hz, S, m, PR.bind q fun ds q vs Hz' H' st r => ?_⟩
    unfold oRng1 at q
    split at q
    · split at q
      · rename_i j hj
        obtain ⟨x, rfl, rx⟩ := paired1 r
        refine ⟨j, by rw [Rp.int_inv rx], by omega, limI hj.2, ?_⟩
        have h := q (Itr 0 j.toNat) Hz' H' st
        have e : (List.range j.toNat).map (fun i : Nat => (PyData.int (0 + (i : Int)) : D)) = (List.range j.toNat).map fun i : Nat => .int (i : Int) := by
          apply List.map_congr_left; intro i _; rw [Int.zero_add]
        rw [← e] at h
        exact h it_rng
      · exact q.elim
    · exact q.elim
theorem ix_range2 {f : Sg → Rs (List D)} {p : Pos} (hg : Gl X "range") (hm : X.mg "range" = none) (ha : EA X A W .rd [a, b] f) (hs : starEach [a, b] X.env = [(false, eval a X.env), (false, eval b X.env)] := by rfl) (hs2 : starEach [b] X.env = [(false, eval b X.env)] := by rfl) :
    IX X A W tg (.Call (.Name "range" p) [a, b] [] pos) (fRng2 f) :=
  PI.imp (pi_range2 hg hm ha hs hs2) fun σ H R ⟨Z0, H0, Hz, S, m, q⟩ => by
    refine ⟨Z0, H0, Hz, S, m, PR.bind q fun ds q vs Hz' H' st r => ?_⟩
    unfold oRng2 at q
    split at q
    · split at q
      · rename_i i j hj
        obtain ⟨x, y, rfl, rx, ry⟩ := paired2 r
        exact ⟨i, j, by rw [Rp.int_inv rx, Rp.int_inv ry], ⟨by have := hj.1.1; omega, limI hj.1.2, by have := hj.2.1; omega, limI hj.2.2⟩, q (Itr i (j - i).toNat) Hz' H' st it_rng⟩
      · exact q.elim
    · exact q.elim

/-! ### comprehensions -/
/-- the items taken, by the test; out the list so far -/
def compF (j : Nat) (t : Sg → Rs Bool) (f : Sg → Rs D) (S : Sg) : List D → List D → Rs (List D)
  | [], out => .ok out
  | x :: xs, out => (t (S.set j (.sh x))).bind fun b => if b = true then (f (S.set j (.sh x))).bind fun d => compF j t f S xs (out ++ [d]) else compF j t f S xs out
def noExC {α : Type} : Rs α → Rs α
  | .ex _ => .no
  | r => r
/-- [elt for x in it if t], x in slot j -/
def fComp (j : Nat) (it : Sg → Rs (List D)) (t : Sg → Rs Bool) (f : Sg → Rs D) : Sg → Rs Sl := fun S => (it S).bind fun ds => if ds.length ≤ LIM then (noExC (compF j t f (S.set j .un) ds [])).bind fun out => .ok (.ow out) else .no
theorem wipe1 (σ : L2.St) (j : Nat) : wipe σ [j] = σ.set j none := rfl
theorem wipe_set (σ : L2.St) (j : Nat) (o : Option V) : wipe ((wipe σ [j]).set j o) [j] = wipe σ [j] := by
  rw [wipe1, wipe1, List.set_set, List.set_set]
theorem Mt.wipe {K : PySem.W.Frag} {Z0 H0 Hz H : Hp} {S : Sg} {σ : L2.St} (m : Mt K Z0 H0 Hz H S σ) (j : Nat) : Mt K Z0 H0 Hz H (S.set j .un) (σ.set j none) := by
  have m' := m.forget j
  refine ⟨m.st, by rw [List.length_set]; exact m'.len, fun i s e => ?_, fun i s a e w => ?_, fun i k s t a e g w x => ?_⟩
  · rcases set_cases e with ⟨rfl, _, rfl⟩ | ⟨n, e⟩
    · trivial
    · rw [getD_set_ne n]; exact m.sl i s e
  · rcases set_cases e with ⟨rfl, _, rfl⟩ | ⟨n, e⟩
    · exact w.elim
    · rw [getD_set_ne n] at w; exact m.hz i s a e w
  · rcases set_cases e with ⟨rfl, _, rfl⟩ | ⟨n, e2⟩
    · exact w.elim
    · rcases set_cases g with ⟨rfl, _, rfl⟩ | ⟨n', g2⟩
      · exact x.elim
      · rw [getD_set_ne n] at w; rw [getD_set_ne n'] at x; exact m.dj i k s t a e2 g2 w x
/-- a cell that is no slot's, and stood not at the entry, changes -/
theorem Mt.side {K : PySem.W.Frag} {Z0 H0 Hz H : Hp} {S : Sg} {σ : L2.St} {p : Addr} {ob : HO} (m : Mt K Z0 H0 Hz H S σ) (hz : Hz p = none) (h0 : H0 p = none) (hn : ∀ j t, S[j]? = some t → ¬ Ow H t (σ.getD j none) p) : Mt K Z0 H0 Hz (upd H p ob) S σ :=
  ⟨⟨m.st.ex.mut h0, m.st.exz, m.st.sub.mut hz, m.st.nk⟩, m.len, fun i s e => (m.sl i s e).other (hn i s e), fun i s a e w => m.hz i s a e (w.other (m.sl i s e) (hn i s e)),
    fun i k s t a e g w x => m.dj i k s t a e g (w.other (m.sl i s e) (hn i s e)) (x.other (m.sl k t g) (hn k t g))⟩
theorem Mt.noOw {K : PySem.W.Frag} {Z0 H0 Hz H Hz' H' : Hp} {S : Sg} {σ : L2.St} {p : Addr} (m : Mt K Z0 H0 Hz H S σ) (h : H p = none) (e : Ex H H') : ∀ j t, S[j]? = some t → ¬ Ow H' t (σ.getD j none) p := fun j t g w => by
  obtain ⟨_, u, q⟩ := (w.back (m.sl j t g) e).there (m.sl j t g)
  rw [h] at q; cases q
/-- over any wish W0 of no exception -/
abbrev W0 : WX := fun _ _ _ _ => False
theorem comp_core {K : PySem.W.Frag} {j : Nat} {it : Sg → Rs (List D)} {t : Sg → Rs Bool} {f : Sg → Rs D} {σ : L2.St} {H : Hp} {Q : VK} (h : tX K A W (fComp j it t f) σ H Q) :
    tLc (tI K A W it) (gName j) (tT K A W0 t) (tK K A W0 .st f) [j] σ H Q := by
  obtain ⟨Z0, H0, Hz, S, m, q⟩ := h
  refine ⟨Z0, H0, Hz, S, m, PR.bind q fun ds q J Hz1 H1 st1 io => ?_⟩
  split at q
  · rename_i hlim
    intro Da hD
    have q1 := q.stp st1 fun _ q => PV.stp q st1
    have m1 := (m.stp st1)
    -- the state of a turn
    let P : Nat → Nat → Hp → Prop := fun i n H' => n = ds.length - i ∧ i ≤ ds.length ∧ ∃ Hz' acc out, Ex Hz1 Hz' ∧ Stp Hz1 H1 Hz' H' ∧ Hz' Da = none ∧ H' Da = some (.lst acc) ∧ RpAll K Hz' acc out ∧ out.length ≤ i ∧
      Mt K Z0 H0 Hz' H' (S.set j .un) (σ.set j none) ∧ PR A W σ Hz1 H1 (PV K Hz1 H1 Q) ((noExC (compF j t f (S.set j .un) (ds.drop i) out)).bind fun out => .ok (.ow out))
    have hst : Stp Hz1 H1 Hz1 (upd H1 Da (.lst [])) := Stp.own st1.sub hD
    refine ⟨P, ⟨ds.length, rfl, Nat.zero_le _, Hz1, [], [], .refl _, hst, st1.sub.none hD, upd_same, .nil, Nat.le_refl _, (m1.stp hst).wipe j, q1⟩, ?_⟩
    rintro i n H' ⟨rfl, hi, Hz', acc, out, ez, st2, hzD, hacc, racc, hol, m2, q2⟩
    by_cases hlt : i < ds.length
    · refine .inr ⟨io.go i H' (ez.trans st2.sub) hlt, P (i + 1) (ds.length - (i + 1)), fun H'' p => ⟨_, by omega, p⟩, fun x H'' y => ?_⟩
      obtain ⟨rfl, rx⟩ := io.yld i H' x H'' ds[i] (ez.trans st2.sub) (List.getElem?_eq_getElem hlt) y
      have hdrop : ds.drop i = ds[i] :: ds.drop (i + 1) := List.drop_eq_getElem_cons hlt
      rw [hdrop, compF] at q2
      show wipe ((wipe σ [j]).set j (some x)) [j] = wipe σ [j] ∧ _
      refine ⟨wipe_set σ j _, ?_⟩
      rw [wipe1]
      have m3 : Mt K Z0 H0 Hz' H'' ((S.set j .un).set j (.sh ds[i])) ((σ.set j none).set j (some x)) := m2.set_new (.refl st2.sub) ⟨x, rfl, rx.mono ez⟩ fun _ w => w.elim
      refine ⟨Z0, H0, Hz', _, m3, ?_⟩
      cases ht : t ((S.set j .un).set j (.sh ds[i])) with
      | no => rw [ht] at q2; exact q2.elim
      | ex c => rw [ht] at q2; exact q2.elim
      | ok b =>
        rw [ht, Rs.bind_ok] at q2
        intro Hz3 H3 st3
        have keepD : H3 Da = some (.lst acc) := st3.ex _ _ hacc
        cases b with
        | false =>
          rw [if_neg Bool.false_ne_true] at q2
          exact ⟨rfl, hlt, Hz3, acc, out, ez.trans st3.exz, st2.trans st3, st3.nw _ _ hacc hzD, keepD, racc.mono st3.exz, by omega, m2.stp st3, q2⟩
        | true =>
          rw [if_pos rfl] at q2
          refine ⟨Z0, H0, Hz3, _, m3.stp st3, ?_⟩
          cases hf : f ((S.set j .un).set j (.sh ds[i])) with
          | no => rw [hf] at q2; exact q2.elim
          | ex c => rw [hf] at q2; exact q2.elim
          | ok d =>
            rw [hf, Rs.bind_ok] at q2
            intro v Hz4 H4 st4 rv
            have keepD4 : H4 Da = some (.lst acc) := st4.ex _ _ keepD
            have hz4 : Hz4 Da = none := st4.nw _ _ keepD (st3.nw _ _ hacc hzD)
            have racc4 : RpAll K Hz4 acc out := (racc.mono st3.exz).mono st4.exz
            refine ⟨acc, keepD4, lim' (by rw [racc4.length]; omega), rfl, hlt, Hz4, acc ++ [v], out ++ [d], (ez.trans st3.exz).trans st4.exz, ?_, hz4, upd_same, racc4.snoc rv, by rw [List.length_append]; simp; omega, ?_, q2⟩
            · have s4 := (st2.trans st3).trans st4
              exact ⟨s4.ex.mut hD, s4.exz, s4.sub.mut hz4, s4.nk⟩
            · refine ((m2.stp st3).stp st4).side hz4 (m1.st.ex.none hD) fun k t' g w => ?_
              -- no slot owns the new list
              have m1w := m1.wipe j
              exact m1w.noOw (Hz' := Hz4) hD ((st2.trans st3).trans st4).ex k t' g w
    · have e : i = ds.length := by omega
      subst e
      refine .inl ⟨io.stop H' (ez.trans st2.sub), ?_⟩
      rw [List.drop_length, compF] at q2
      exact q2 (.ref Da) Hz' H' st2 ⟨Da, acc, rfl, hacc, hzD, racc⟩ fun b w => by
        have w' : some (V.ref Da) = some (.ref b) := w
        cases w'; exact hD
  · exact q.elim
def tTrue : Sg → Rs Bool := fun _ => .ok true
abbrev EIfs (X : Cx) (A : Nat → Addr) (W : WX) (ifs : List Expr) (f : Sg → Rs Bool) : Prop := PTs X ifs (tT X.K A W f)
theorem PTs.imp {X : Cx} {es : List Expr} {t t' : TT} (h : PTs X es t) (k : ∀ σ H Q, t' σ H Q → t σ H Q) : PTs X es t' := ⟨fun pins s σ H Q I q => h.run pins s σ H Q I (k σ H Q q)⟩
theorem eif_nil : EIfs X A W [] tTrue := PTs.imp pts_nil fun σ H Q ⟨Z0, H0, Hz, S, m, q⟩ => q Hz H (.refl m.st.sub)
theorem eif_one {f : Sg → Rs Bool} (h : ET X A W c f) : EIfs X A W [c] f := pts_one h
theorem ex_comp {j : Nat} {x : Str} {elt iter : Expr} {ifs : List Expr} {scope : Scope} {tpos : Pos} {it : Sg → Rs (List D)} {t : Sg → Rs Bool} {f : Sg → Rs D} (hc : X.calm = true) (hN : X.N.Nodup) (hi : IX X A W (.Name x tpos) iter it) (ok : BlkOk X.N X.env.scope scope [(x, j)])
    (hg : ∀ (s : Shared) (H : Hp) (C : Addr) (cl : List (Str × Addr)) (fp : List Addr), PG (X.blk s H scope (compEnvC scope cl C X.env) fp) (.Name x tpos) (gName j)) (ht : ∀ (s : Shared) (H : Hp) (C : Addr) (cl : List (Str × Addr)) (fp : List Addr), EIfs (X.blk s H scope (compEnvC scope cl C X.env) fp) A W0 ifs t)
    (he : ∀ (s : Shared) (H : Hp) (C : Addr) (cl : List (Str × Addr)) (fp : List Addr), EK (X.blk s H scope (compEnvC scope cl C X.env) fp) A W0 .st elt f) (hs : ∀ x, foldedSetIterable iter X.env x = pure x := by intro _; rfl) :
    EX X A W (.ListComp elt [⟨.Name x tpos, iter, ifs, 0⟩] scope pos) (fComp j it t f) :=
  PE.imp (pe_lc (own := [(x, j)]) hc hN hi ok hg ht he hs) fun _ _ _ h => comp_core h
/-- [e for x in it], each e a new list: a list of lists of the own -/
def compF2 (j : Nat) (f : Sg → Rs Sl) (S : Sg) : List D → List (List D) → Rs (List (List D))
  | [], out => .ok out
  | x :: xs, out => (f (S.set j (.sh x))).bind fun s => match s with
    | .ow ds => compF2 j f S xs (out ++ [ds])
    | _ => .no
def fComp2 (j : Nat) (it : Sg → Rs (List D)) (f : Sg → Rs Sl) : Sg → Rs Sl := fun S => (it S).bind fun ds => if ds.length ≤ LIM then (noExC (compF2 j f (S.set j .un) ds [])).bind fun out => .ok (.o2 out) else .no
theorem InR.snoc {K : PySem.W.Frag} {Hz H : Hp} {a : Addr} {d : List D} : ∀ {as : List Addr} {dss : List (List D)}, InR K Hz H as dss → (Hz a = none ∧ ∃ xs, H a = some (.lst xs) ∧ RpAll K Hz xs d) → InR K Hz H (as ++ [a]) (dss ++ [d])
  | _, _, .nil, h => .cons h .nil
  | _, _, .cons r t, h => .cons r (InR.snoc t h)
theorem InR.stp {K : PySem.W.Frag} {Hz H Hz' H' : Hp} {as : List Addr} {dss : List (List D)} (r : InR K Hz H as dss) (st : Stp Hz H Hz' H') : InR K Hz' H' as dss :=
  Paired.mapP r fun a ds ⟨z, xs, h, r⟩ => ⟨st.nw _ _ h z, xs, st.ex _ _ h, r.mono st.exz⟩
theorem InR.other {K : PySem.W.Frag} {Hz H : Hp} {p : Addr} {ob : HO} {as : List Addr} {dss : List (List D)} (r : InR K Hz H as dss) (n : p ∉ as) : InR K Hz (upd H p ob) as dss := by
  induction r with
  | nil => exact .nil
  | cons r _ ih =>
    obtain ⟨z, xs, h, r⟩ := r
    rw [List.mem_cons, not_or] at n
    exact .cons ⟨z, xs, by rw [upd_ne (Ne.symm n.1)]; exact h, r⟩ (ih n.2)
theorem InR.length {K : PySem.W.Frag} {Hz H : Hp} {as : List Addr} {dss : List (List D)} (r : InR K Hz H as dss) : as.length = dss.length := Paired.length r
theorem comp_core2 {K : PySem.W.Frag} {j : Nat} {it : Sg → Rs (List D)} {f : Sg → Rs Sl} {σ : L2.St} {H : Hp} {Q : VK} (h : tX K A W (fComp2 j it f) σ H Q) :
    tLc (tI K A W it) (gName j) tYes (tX K A W0 f) [j] σ H Q := by
  obtain ⟨Z0, H0, Hz, S, m, q⟩ := h
  refine ⟨Z0, H0, Hz, S, m, PR.bind q fun ds q J Hz1 H1 st1 io => ?_⟩
  split at q
  · rename_i hlim
    intro Da hD
    have q1 := q.stp st1 fun _ q => PV.stp q st1
    have m1 := (m.stp st1)
    let P : Nat → Nat → Hp → Prop := fun i n H' => n = ds.length - i ∧ i ≤ ds.length ∧ ∃ Hz' as out, Ex Hz1 Hz' ∧ Stp Hz1 H1 Hz' H' ∧ Hz' Da = none ∧ H' Da = some (.lst (as.map V.ref)) ∧ as.Nodup ∧ Da ∉ as ∧ InR K Hz' H' as out ∧ (∀ a ∈ as, H1 a = none) ∧ out.length ≤ i ∧
      Mt K Z0 H0 Hz' H' (S.set j .un) (σ.set j none) ∧ PR A W σ Hz1 H1 (PV K Hz1 H1 Q) ((noExC (compF2 j f (S.set j .un) (ds.drop i) out)).bind fun out => .ok (.o2 out))
    have hst : Stp Hz1 H1 Hz1 (upd H1 Da (.lst [])) := Stp.own st1.sub hD
    refine ⟨P, ⟨ds.length, rfl, Nat.zero_le _, Hz1, [], [], .refl _, hst, st1.sub.none hD, upd_same, by simp, by simp, .nil, (by intro _ h; cases h), Nat.le_refl _, (m1.stp hst).wipe j, q1⟩, ?_⟩
    rintro i n H' ⟨rfl, hi, Hz', as, out, ez, st2, hzD, hacc, nd, nD, inr, fr, hol, m2, q2⟩
    by_cases hlt : i < ds.length
    · refine .inr ⟨io.go i H' (ez.trans st2.sub) hlt, P (i + 1) (ds.length - (i + 1)), fun H'' p => ⟨_, by omega, p⟩, fun x H'' y => ?_⟩
      obtain ⟨rfl, rx⟩ := io.yld i H' x H'' ds[i] (ez.trans st2.sub) (List.getElem?_eq_getElem hlt) y
      have hdrop : ds.drop i = ds[i] :: ds.drop (i + 1) := List.drop_eq_getElem_cons hlt
      rw [hdrop, compF2] at q2
      show wipe ((wipe σ [j]).set j (some x)) [j] = wipe σ [j] ∧ _
      refine ⟨wipe_set σ j _, ?_⟩
      rw [wipe1]
      have m3 : Mt K Z0 H0 Hz' H'' ((S.set j .un).set j (.sh ds[i])) ((σ.set j none).set j (some x)) := m2.set_new (.refl st2.sub) ⟨x, rfl, rx.mono ez⟩ fun _ w => w.elim
      unfold tYes
      refine iteT ?_
      refine ⟨Z0, H0, Hz', _, m3, ?_⟩
      cases hf : f ((S.set j .un).set j (.sh ds[i])) with
      | no => rw [hf] at q2; exact q2.elim
      | ex c => rw [hf] at q2; exact q2.elim
      | ok s =>
        rw [hf, Rs.bind_ok] at q2
        intro v Hz4 H4 st4 sr fv
        split at q2
        · rename_i d
          obtain ⟨a, xs, ev, ha, hza, ra⟩ := sr
          cases ev
          have naH : H'' a = none := fv a rfl
          have keepD4 : H4 Da = some (.lst (as.map V.ref)) := st4.ex _ _ hacc
          have hz4 : Hz4 Da = none := st4.nw _ _ hacc hzD
          have neD : a ≠ Da := fun z => by rw [z, hacc] at naH; cases naH
          have nas : a ∉ as := fun mm => by
            obtain ⟨_, _, _, xs', hx', _⟩ := paired_mem inr a mm
            rw [naH] at hx'; cases hx'
          refine ⟨as.map V.ref, keepD4, lim' (by rw [List.length_map, inr.length]; omega), rfl, hlt, Hz4, as ++ [a], out ++ [d], ez.trans st4.exz, ?_, hz4, by rw [upd_same, List.map_append]; rfl, ?_, ?_, ?_, ?_, by rw [List.length_append]; simp; omega, ?_, q2⟩
          · have s4 := st2.trans st4
            exact ⟨s4.ex.mut hD, s4.exz, s4.sub.mut hz4, s4.nk⟩
          · rw [List.nodup_append]
            exact ⟨nd, by simp, fun x hx y hy => by rw [List.mem_singleton] at hy; subst hy; exact fun z => nas (z ▸ hx)⟩
          · rw [List.mem_append, List.mem_singleton, not_or]
            exact ⟨nD, neD.symm⟩
          · exact InR.snoc ((inr.stp st4).other nD) ⟨hza, xs, by rw [upd_ne neD]; exact ha, ra⟩
          · intro b hb
            rcases List.mem_append.mp hb with hb | hb
            · exact fr b hb
            · rw [List.mem_singleton] at hb; subst hb; exact st2.ex.none naH
          · refine (m2.stp st4).side hz4 (m1.st.ex.none hD) fun k t' g w => ?_
            have m1w := m1.wipe j
            exact m1w.noOw (Hz' := Hz4) hD (st2.trans st4).ex k t' g w
        · exact q2.elim
    · have e : i = ds.length := by omega
      subst e
      refine .inl ⟨io.stop H' (ez.trans st2.sub), ?_⟩
      rw [List.drop_length, compF2] at q2
      exact q2 (.ref Da) Hz' H' st2 ⟨Da, as, rfl, hacc, nd, nD, hzD, inr⟩ fun b w => by
        rcases w with w | ⟨p, bs, w, hh, mm⟩
        · cases w; exact hD
        · cases w
          rw [hacc] at hh
          injection hh with hh; injection hh with hh
          have := refs_inj hh
          subst this
          exact fr b mm
  · exact q.elim
theorem ex_comp2 {j : Nat} {x : Str} {elt iter : Expr} {scope : Scope} {tpos : Pos} {it : Sg → Rs (List D)} {f : Sg → Rs Sl} (hc : X.calm = true) (hN : X.N.Nodup) (hi : IX X A W (.Name x tpos) iter it) (ok : BlkOk X.N X.env.scope scope [(x, j)])
    (hg : ∀ (s : Shared) (H : Hp) (C : Addr) (cl : List (Str × Addr)) (fp : List Addr), PG (X.blk s H scope (compEnvC scope cl C X.env) fp) (.Name x tpos) (gName j))
    (he : ∀ (s : Shared) (H : Hp) (C : Addr) (cl : List (Str × Addr)) (fp : List Addr), EX (X.blk s H scope (compEnvC scope cl C X.env) fp) A W0 elt f) (hs : ∀ x, foldedSetIterable iter X.env x = pure x := by intro _; rfl) :
    EX X A W (.ListComp elt [⟨.Name x tpos, iter, [], 0⟩] scope pos) (fComp2 j it f) :=
  PE.imp (pe_lc (own := [(x, j)]) hc hN hi ok hg (fun _ _ _ _ _ => pts_nil) he hs) fun _ _ _ h => comp_core2 h
end
end Sh

/-! ## Part F: statements, defs, calls -/
namespace Sh
open PySem PySem.Spec PyProof.Rows L2

section
variable {X : Cx} {A : Nat → Addr} {W : WX} {a b c e : Expr} {es : List Expr} {k k1 k2 k3 : Kd} {pos : Pos} {fa fb : Sg → Rs D}
/-! ### blocks -/
def sNext : Sg → Out := fun S => .nx S
def sSeq (f g : Sg → Out) : Sg → Out := fun S => match f S with
  | .nx S' => g S'
  | o => o
theorem sb_nil : SB X A W [] sNext := PSs.imp pss_nil fun Dn σ H ⟨Z0, H0, Hz, S, m, q⟩ => q Hz H σ (.refl _) m
theorem sb_cons {st : Stmt} {rest : List Stmt} {f g : Sg → Out} (h : SX X A W st f) (t : SB X A W rest g) : SB X A W (st :: rest) (sSeq f g) := PSs.imp (pss_cons h t) fun Dn σ H ⟨Z0, H0, Hz, S, m, q⟩ => by
  refine ⟨Z0, H0, Hz, S, m, ?_⟩
  unfold sSeq at q
  cases hf : f S with
  | nx S' =>
    rw [hf] at q
    exact fun Hz' H' σ' ez m' => ⟨Z0, H0, Hz', S', m', q.ez ez⟩
  | rt r => rw [hf] at q; exact q
  | bk S' => rw [hf] at q; exact q
  | ct S' => rw [hf] at q; exact q
  | ex c S' => rw [hf] at q; exact q
  | no => rw [hf] at q; exact q
theorem sb_one {st : Stmt} {f : Sg → Out} (h : SX X A W st f) : SB X A W [st] f := pss_one h

/-! ### stores -/
def sSet (i : Nat) (f : Sg → Rs Sl) : Sg → Out := fun S => (f S).thenO S fun r => .nx (S.set i r)
theorem set_core {K : PySem.W.Frag} {i : Nat} {f : Sg → Rs Sl} {Dn : Ends} {σ : L2.St} {H : Hp} (h : tS K A W (sSet i f) Dn σ H) : tX K A W f σ H fun x H1 => Dn.nx (σ.set i (some x)) H1 := by
  obtain ⟨Z0, H0, Hz, S, m, q⟩ := h
  exact ⟨Z0, H0, Hz, S, m, PO.bind m q fun r q v Hz' H' st sr fr => q Hz' H' _ st.exz (m.set_new st sr fr)⟩
theorem sx_set {i : Nat} {x : Str} {f : Sg → Rs Sl} {pos' : Pos} (hN : X.N.Nodup) (hi : X.N[i]? = some x) (hx : Loc X.env.scope x) (he : EX X A W e f) (hs : swapsWith e (some (.Name x pos')) pos.line X.env = pure false := by rfl)
    (hf : X.fn x = true ∨ X.env.scope.names.lookup x = some .local := by first | exact .inl rfl | exact .inr rfl | assumption) : SX X A W (.Assign [.Name x pos'] e pos) (sSet i f) :=
  PS.imp (ps_set hN hi hx he hs hf) fun Dn σ H h => set_core h
theorem sx_setLc {i j : Nat} {y x : Str} {py : Pos} {elt iter : Expr} {ifs : List Expr} {scope : Scope} {tpos spos : Pos} {it : Sg → Rs (List D)} {t : Sg → Rs Bool} {f : Sg → Rs D} (hc : X.calm = true) (hN : X.N.Nodup) (hy : X.N[i]? = some y) (hyl : X.env.scope.names.lookup y = some .local)
    (hsw : swapsWith (.ListComp elt [⟨.Name x tpos, iter, ifs, 0⟩] scope pos) (some (.Name y py)) spos.line X.env = pure true) (hi : IX X A W (.Name x tpos) iter it) (ok : BlkOk X.N X.env.scope scope [(x, j)])
    (hg : ∀ (s : Shared) (H : Hp) (C : Addr) (cl : List (Str × Addr)) (fp : List Addr), PG (X.blk s H scope (compEnvC scope cl C X.env) fp) (.Name x tpos) (gName j)) (ht : ∀ (s : Shared) (H : Hp) (C : Addr) (cl : List (Str × Addr)) (fp : List Addr), EIfs (X.blk s H scope (compEnvC scope cl C X.env) fp) A W0 ifs t)
    (he : ∀ (s : Shared) (H : Hp) (C : Addr) (cl : List (Str × Addr)) (fp : List Addr), EK (X.blk s H scope (compEnvC scope cl C X.env) fp) A W0 .st elt f) (hs : ∀ x, foldedSetIterable iter X.env x = pure x := by intro _; rfl) :
    SX X A W (.Assign [.Name y py] (.ListComp elt [⟨.Name x tpos, iter, ifs, 0⟩] scope pos) spos) (sSet i (fComp j it t f)) :=
  PS.imp (ps_setLc (own := [(x, j)]) hc hN hy hyl hsw hi ok hg ht he hs) fun Dn σ H h => comp_core (set_core h)
theorem sx_setLc2 {i j : Nat} {y x : Str} {py : Pos} {elt iter : Expr} {scope : Scope} {tpos spos : Pos} {it : Sg → Rs (List D)} {f : Sg → Rs Sl} (hc : X.calm = true) (hN : X.N.Nodup) (hy : X.N[i]? = some y) (hyl : X.env.scope.names.lookup y = some .local)
    (hsw : swapsWith (.ListComp elt [⟨.Name x tpos, iter, [], 0⟩] scope pos) (some (.Name y py)) spos.line X.env = pure true) (hi : IX X A W (.Name x tpos) iter it) (ok : BlkOk X.N X.env.scope scope [(x, j)])
    (hg : ∀ (s : Shared) (H : Hp) (C : Addr) (cl : List (Str × Addr)) (fp : List Addr), PG (X.blk s H scope (compEnvC scope cl C X.env) fp) (.Name x tpos) (gName j))
    (he : ∀ (s : Shared) (H : Hp) (C : Addr) (cl : List (Str × Addr)) (fp : List Addr), EX (X.blk s H scope (compEnvC scope cl C X.env) fp) A W0 elt f) (hs : ∀ x, foldedSetIterable iter X.env x = pure x := by intro _; rfl) :
    SX X A W (.Assign [.Name y py] (.ListComp elt [⟨.Name x tpos, iter, [], 0⟩] scope pos) spos) (sSet i (fComp2 j it f)) :=
  PS.imp (ps_setLc (own := [(x, j)]) hc hN hy hyl hsw hi ok hg (fun _ _ _ _ _ => pts_nil) he hs) fun Dn σ H h => comp_core2 (set_core h)
/-- the slot's own thing stands still from here on -/
def frz (i : Nat) (S : Sg) : Sg := match S[i]? with
  | some s => (match s.d? with | some d => S.set i (.sh d) | none => S)
  | none => S
theorem Mt.frz {K : PySem.W.Frag} {Z0 H0 Hz H : Hp} {S : Sg} {σ : L2.St} (m : Mt K Z0 H0 Hz H S σ) (i : Nat) : ∃ Hy, Ex Hz Hy ∧ Mt K Z0 H0 Hy H (frz i S) σ := by
  unfold Sh.frz
  cases e : S[i]? with
  | none => exact ⟨Hz, .refl _, m⟩
  | some s =>
    simp only
    cases hd : s.d? with
    | none => exact ⟨Hz, .refl _, m⟩
    | some d =>
      obtain ⟨Hy, ez, m', _⟩ := m.freeze e hd
      exact ⟨Hy, ez, m'⟩
def sFrz (i : Nat) (g : Sg → Out) : Sg → Out := fun S => g (frz i S)
theorem sx_frz {st : Stmt} {g : Sg → Out} (i : Nat) (h : SX X A W st g) : SX X A W st (sFrz i g) := PS.imp h fun Dn σ H ⟨Z0, H0, Hz, S, m, q⟩ => by
  obtain ⟨Hy, ez, m'⟩ := m.frz i
  exact ⟨Z0, H0, Hy, _, m', PO.ez q ez⟩
/-- x = y, y's own thing: it is x's from here on -/
def sMove (i j : Nat) : Sg → Out := fun S => match S[j]? with
  | some s => (match s.d? with | some _ => .nx ((S.set j .un).set i s) | none => .no)
  | none => .no
theorem sx_move {i j : Nat} {x y : Str} {pos' p2 : Pos} (hN : X.N.Nodup) (hi : X.N[i]? = some x) (hx : Loc X.env.scope x) (hj : X.N[j]? = some y) (hy : Vis X.env.scope y) (hs : swapsWith (.Name y p2) (some (.Name x pos')) pos.line X.env = pure false := by rfl)
    (hf : X.fn x = true ∨ X.env.scope.names.lookup x = some .local := by first | exact .inl rfl | exact .inr rfl | assumption) (hd : (y == ("__debug__" : Str)) = false := by decide) (hcd : (y == ("__classdict__" : Str)) = false := by decide) : SX X A W (.Assign [.Name x pos'] (.Name y p2) pos) (sMove i j) :=
  PS.imp (ps_set hN hi hx (pe_var hj hy hd hcd) hs hf) fun Dn σ H ⟨Z0, H0, Hz, S, m, q⟩ => by
    unfold sMove at q
    cases e : S[j]? with
    | none => rw [e] at q; exact q.elim
    | some s =>
      rw [e] at q
      simp only at q
      cases hd : s.d? with
      | none => rw [hd] at q; exact q.elim
      | some d =>
        rw [hd] at q
        obtain ⟨v, ev, _⟩ := (m.sl j s e).rd hd m.st.sub
        refine ⟨v, getD_some ev, q Hz H _ (.refl _) ?_⟩
        have mf := m.forget j
        have sr : SlR X.K Hz H s (some v) := by rw [← ev]; exact m.sl j s e
        refine ⟨m.st, by rw [List.length_set, List.length_set]; exact mf.len, fun k t g => ?_, fun k t a g w => ?_, fun k l t u a g g' w w' => ?_⟩
        · rcases set_cases g with ⟨rfl, hl, rfl⟩ | ⟨n, g2⟩
          · rw [getD_set (by rw [mf.len]; exact hl)]; exact sr
          · rw [getD_set_ne n]; exact mf.sl k t g2
        · rcases set_cases g with ⟨rfl, hl, rfl⟩ | ⟨n, g2⟩
          · rw [getD_set (by rw [mf.len]; exact hl)] at w; exact m.hz j _ a e (by rw [ev]; exact w)
          · rw [getD_set_ne n] at w; exact mf.hz k t a g2 w
        · have other : ∀ k t, (S.set j .un)[k]? = some t → Ow H t (σ.getD k none) a → Ow H s (some v) a → False := fun k t g w w' => by
            rcases set_cases g with ⟨rfl, hl, rfl⟩ | ⟨n, g2⟩
            · exact w
            · exact n (m.dj j k s t a e g2 (by rw [ev]; exact w') w)
          rcases set_cases g with ⟨rfl, hl, rfl⟩ | ⟨n, h1⟩
          · rw [getD_set (by rw [mf.len]; exact hl)] at w
            rcases set_cases g' with ⟨rfl, _, rfl⟩ | ⟨n', h2⟩
            · rfl
            · rw [getD_set_ne n'] at w'; exact (other l u h2 w' w).elim
          · rw [getD_set_ne n] at w
            rcases set_cases g' with ⟨rfl, hl, rfl⟩ | ⟨n', h2⟩
            · rw [getD_set (by rw [mf.len]; exact hl)] at w'; exact (other k t h1 w w').elim
            · rw [getD_set_ne n'] at w'; exact mf.dj k l t u a h1 h2 w w'

/-! ### lists changed in place -/
/-- the own list in slot i becomes f of it -/
theorem Mt.lst {K : PySem.W.Frag} {Z0 H0 Hz H : Hp} {S : Sg} {σ : L2.St} {i : Nat} {ds ds' : List D} (m : Mt K Z0 H0 Hz H S σ) (e : S[i]? = some (.ow ds)) : ∃ p xs, σ[i]? = some (some (.ref p)) ∧ H p = some (.lst xs) ∧ RpAll K Hz xs ds ∧
    ∀ ys, RpAll K Hz ys ds' → Mt K Z0 H0 Hz (upd H p (.lst ys)) (S.set i (.ow ds')) σ := by
  obtain ⟨p, xs, ev, hp, hz, r⟩ := m.sl i _ e
  refine ⟨p, xs, getD_some ev, hp, r, fun ys ry => ?_⟩
  exact m.mut e (a := p) ev ⟨p, ys, ev, upd_same, hz, ry⟩ fun b w => .inl w
def sApp (i : Nat) (f : Sg → Rs D) : Sg → Out := fun S => match S[i]? with
  | some (.ow ds) => (f S).thenO S fun d => if ds.length < LIM then .nx (S.set i (.ow (ds ++ [d]))) else .no
  | _ => .no
theorem sx_app {i : Nat} {x : Str} {p2 apos cpos : Pos} {f : Sg → Rs D} (hi : X.N[i]? = some x) (hx : Vis X.env.scope x) (he : EK X A W .st e f) (hd : (x == ("__debug__" : Str)) = false := by decide) (hcd : (x == ("__classdict__" : Str)) = false := by decide)
    (hbase : attributeBase (.Name x p2) "append" X.env (eval (.Name x p2) X.env) = eval (.Name x p2) X.env := by rfl)
    (hfew : ((backTo cpos (starEach [e] X.env)).all (fun x => !x.1) && (backToKw cpos (keywordEach [] X.env)).all (fun x => x.1.isSome)
      && decide ([e].length + ([] : List Keyword).length + (if ([] : List Keyword).isEmpty then 0 else 1) < 30)) = true := by rfl)
    (hline : (apos.endLine == cpos.line) = true := by rfl) (hs : starEach [e] X.env = (false, eval e X.env) :: starEach [] X.env := by rfl) (hplain : (backTo cpos (starEach [] X.env)).any (·.1) = false := by rfl)
    (hsw : swapsWith (.Call (.Attribute (.Name x p2) "append" apos) [e] [] cpos) none pos.line X.env = pure false := by rfl) :
    SX X A W (.Expr (.Call (.Attribute (.Name x p2) "append" apos) [e] [] cpos) pos) (sApp i f) :=
  PS.imp (ps_expr (pe_bm PySem.F.plainAttrs_list PySem.F.slot_list_append PySem.F.type_list_append mt_append (pe_var hi hx hd hcd) (pa_cons he pa_nil hs) hbase hfew hline hs hplain) hsw) fun Dn σ H ⟨Z0, H0, Hz, S, m, q⟩ => by
    unfold sApp at q
    split at q
    · rename_i ds e1
      obtain ⟨p, xs, ev, hp, r, _⟩ := m.lst (ds' := []) e1
      refine ⟨.ref p, ev, .inl ⟨rfl, xs, SqL.of hp⟩, Z0, H0, Hz, S, m, PO.bind m q fun d q v Hz' H' st rv => ?_⟩
      split at q
      · rename_i hl
        have m' := m.stp st
        obtain ⟨p', xs', ev', hp', r', mk⟩ := m'.lst (ds' := ds ++ [d]) e1
        rw [ev] at ev'; cases ev'
        exact ⟨p, xs', v, rfl, rfl, hp', lim' (by rw [r'.length]; omega), q Hz' _ σ st.exz (mk _ (r'.snoc rv))⟩
      · exact q.elim
    · exact q.elim
/-- xs.append(e), e a new list, xs a list of such -/
def sApp2 (i : Nat) (f : Sg → Rs Sl) : Sg → Out := fun S => match S[i]? with
  | some (.o2 dss) => (f S).thenO S fun s => match s with
    | .ow d => if dss.length < LIM then .nx (S.set i (.o2 (dss ++ [d]))) else .no
    | _ => .no
  | _ => .no
theorem sx_app2 {i : Nat} {x : Str} {p2 apos cpos : Pos} {f : Sg → Rs Sl} (hi : X.N[i]? = some x) (hx : Vis X.env.scope x) (he : EX X A W e f) (hd : (x == ("__debug__" : Str)) = false := by decide) (hcd : (x == ("__classdict__" : Str)) = false := by decide)
    (hbase : attributeBase (.Name x p2) "append" X.env (eval (.Name x p2) X.env) = eval (.Name x p2) X.env := by rfl)
    (hfew : ((backTo cpos (starEach [e] X.env)).all (fun x => !x.1) && (backToKw cpos (keywordEach [] X.env)).all (fun x => x.1.isSome)
      && decide ([e].length + ([] : List Keyword).length + (if ([] : List Keyword).isEmpty then 0 else 1) < 30)) = true := by rfl)
    (hline : (apos.endLine == cpos.line) = true := by rfl) (hs : starEach [e] X.env = (false, eval e X.env) :: starEach [] X.env := by rfl) (hplain : (backTo cpos (starEach [] X.env)).any (·.1) = false := by rfl)
    (hsw : swapsWith (.Call (.Attribute (.Name x p2) "append" apos) [e] [] cpos) none pos.line X.env = pure false := by rfl) :
    SX X A W (.Expr (.Call (.Attribute (.Name x p2) "append" apos) [e] [] cpos) pos) (sApp2 i f) :=
  PS.imp (ps_expr (pe_bm PySem.F.plainAttrs_list PySem.F.slot_list_append PySem.F.type_list_append mt_append (pe_var hi hx hd hcd) (pa_cons he pa_nil hs) hbase hfew hline hs hplain) hsw) fun Dn σ H ⟨Z0, H0, Hz, S, m, q⟩ => by
    unfold sApp2 at q
    split at q
    · rename_i dss e1
      obtain ⟨p, as, ev, o2⟩ := m.sl i _ e1
      refine ⟨.ref p, getD_some ev, .inl ⟨rfl, _, SqL.of o2.top⟩, Z0, H0, Hz, S, m, PO.bind m q fun s q v Hz' H' st sr fr => ?_⟩
      split at q
      · rename_i d
        split at q
        · rename_i hl
          have m' := m.stp st
          obtain ⟨p', as', ev', o2'⟩ := m'.sl i _ e1
          rw [ev] at ev'; cases ev'
          obtain ⟨a, xs, eva, ha, hza, ra⟩ := sr
          cases eva
          have na : H a = none := fr a rfl
          have nea : a ≠ p := fun z => by rw [z, o2.top] at na; cases na
          have eas : as' = as := refs_inj (by
            have h1 := st.ex _ _ o2.top
            rw [o2'.top] at h1
            injection h1 with h1; injection h1 with h1)
          subst eas
          have nas : a ∉ as' := fun mm => by
            obtain ⟨_, _, _, xs', hx', _⟩ := paired_mem o2.inr a mm
            rw [na] at hx'; cases hx'
          refine ⟨p, as'.map V.ref, .ref a, rfl, rfl, o2'.top, lim' (by rw [List.length_map, o2'.inr.length]; omega), q Hz' _ σ st.exz ?_⟩
          refine m'.mut e1 (a := p) (.inl ev) ⟨p, as' ++ [a], ev, by rw [upd_same, List.map_append]; rfl, ?_, ?_, o2'.hz, ?_⟩ fun b w => ?_
          · rw [List.nodup_append]
            exact ⟨o2'.nd, by simp, fun x hx y hy => by rw [List.mem_singleton] at hy; subst hy; exact fun z => nas (z ▸ hx)⟩
          · rw [List.mem_append, List.mem_singleton, not_or]
            exact ⟨o2'.np, nea.symm⟩
          · exact InR.snoc (o2'.inr.other o2'.np) ⟨hza, xs, by rw [upd_ne nea]; exact ha, ra⟩
          · rcases w with w | ⟨p2, bs, w, hh, mm⟩
            · exact .inl (.inl w)
            · rw [ev] at w; cases w
              rw [upd_same] at hh
              injection hh with hh; injection hh with hh
              have : as' ++ [a] = bs := refs_inj (by rw [List.map_append]; exact hh)
              subst this
              rcases List.mem_append.mp mm with mm | mm
              · exact .inl (.inr ⟨p, as', ev, o2'.top, mm⟩)
              · rw [List.mem_singleton] at mm; subst mm
                exact .inr ⟨m.st.ex.none na, m.noOw (Hz' := Hz) na st.ex⟩
        · exact q.elim
      · exact q.elim
    · exact q.elim
/-- the j-th of lists of the own becomes another -/
theorem InR.set {K : PySem.W.Frag} {Hz H : Hp} {d : List D} {ys : List V} : ∀ {as : List Addr} {dss : List (List D)} {j : Nat} {a : Addr}, InR K Hz H as dss → as.Nodup → as[j]? = some a → RpAll K Hz ys d → InR K Hz (upd H a (.lst ys)) as (dss.set j d)
  | _, _, _, _, .nil, _, e, _ => by simp at e
  | b :: as, _, 0, a, .cons r t, nd, e, q => by
    have e' : b = a := Option.some.inj e
    subst e'
    rw [List.nodup_cons] at nd
    exact .cons ⟨r.1, ys, upd_same, q⟩ (InR.other t nd.1)
  | b :: as, _, j + 1, a, .cons r t, nd, e, q => by
    rw [List.nodup_cons] at nd
    have e' : as[j]? = some a := e
    have hb : b ≠ a := fun z => nd.1 (z ▸ List.mem_of_getElem? e')
    obtain ⟨z, xs, h, rr⟩ := r
    exact .cons ⟨z, xs, by rw [upd_ne hb]; exact h, rr⟩ (InR.set t nd.2 e' q)
theorem paired_get {α β : Type} {F : α → β → Prop} : ∀ {l1 : List α} {l2 : List β} {j : Nat} {y : β}, Paired F l1 l2 → l2[j]? = some y → ∃ x, l1[j]? = some x ∧ F x y
  | _, _, _, _, .nil, e => by simp at e
  | _, _, 0, _, .cons r _, e => ⟨_, rfl, by have := Option.some.inj e; subst this; exact r⟩
  | _, _, j + 1, _, .cons _ t, e => by
    obtain ⟨x, h1, h2⟩ := paired_get (j := j) t (by simpa using e)
    exact ⟨x, by simpa using h1, h2⟩
theorem O2.atI {K : PySem.W.Frag} {Hz H : Hp} {p : Addr} {as : List Addr} {dss : List (List D)} {i : Int} {j : Nat} {ds : List D} (o : O2 K Hz H p as dss) (hj : ixN dss.length i = some j) (hd : dss[j]? = some ds) : ∃ a xs, as[j]? = some a ∧ L2.atI (as.map V.ref) i = some (.ref a) ∧ H a = some (.lst xs) ∧ RpAll K Hz xs ds ∧ Hz a = none := by
  obtain ⟨a, ha, hz, xs, hx, r⟩ := paired_get o.inr hd
  refine ⟨a, xs, ha, ?_, hx, r, hz⟩
  unfold L2.atI
  rw [List.length_map, o.inr.length, hj]
  show (as.map V.ref)[j]? = _
  rw [List.getElem?_map, ha]; rfl
theorem Mt.o2 {K : PySem.W.Frag} {Z0 H0 Hz H : Hp} {S : Sg} {σ : L2.St} {i j : Nat} {p a : Addr} {as : List Addr} {dss : List (List D)} {d : List D} {ys : List V} (m : Mt K Z0 H0 Hz H S σ) (e : S[i]? = some (.o2 dss)) (ev : σ.getD i none = some (.ref p)) (o : O2 K Hz H p as dss) (ha : as[j]? = some a) (r : RpAll K Hz ys d) :
    Mt K Z0 H0 Hz (upd H a (.lst ys)) (S.set i (.o2 (dss.set j d))) σ := by
  have ma : a ∈ as := List.mem_of_getElem? ha
  have pa : p ≠ a := fun z => o.np (z ▸ ma)
  have top : upd H a (.lst ys) p = some (.lst (as.map V.ref)) := by rw [upd_ne pa]; exact o.top
  refine m.mut e (a := a) (.inr ⟨p, as, ev, o.top, ma⟩) ⟨p, as, ev, top, o.nd, o.np, o.hz, InR.set o.inr o.nd ha r⟩ fun b w => .inl ?_
  rcases w with w | ⟨p2, bs, w, hh, mm⟩
  · exact .inl w
  · rw [ev] at w; cases w
    rw [top] at hh
    exact .inr ⟨p, bs, ev, by rw [← hh]; exact o.top, mm⟩
/-- xs[k].append(e), xs a list of lists of the own -/
def sAppAt (i : Nat) (fk f : Sg → Rs D) : Sg → Out := fun S => match S[i]? with
  | some (.o2 dss) => (fk S).thenO S fun kd => match kd with
    | .int k => (match ixN dss.length k with
      | some j => (match dss[j]? with
        | some ds => (f S).thenO S fun d => if ds.length < LIM then .nx (S.set i (.o2 (dss.set j (ds ++ [d])))) else .no
        | none => .no)
      | none => .no)
    | _ => .no
  | _ => .no
theorem sx_appAt {i : Nat} {x : Str} {ke : Expr} {p2 p3 apos cpos : Pos} {fk f : Sg → Rs D} (hi : X.N[i]? = some x) (hx : Vis X.env.scope x) (hk : EK X A W .rd ke fk) (he : EK X A W .st e f) (hsub : PlainIx ke) (hd : (x == ("__debug__" : Str)) = false := by decide) (hcd : (x == ("__classdict__" : Str)) = false := by decide)
    (hbase : attributeBase (.Subscript (.Name x p2) ke p3) "append" X.env (eval (.Subscript (.Name x p2) ke p3) X.env) = eval (.Subscript (.Name x p2) ke p3) X.env := by rfl)
    (hfew : ((backTo cpos (starEach [e] X.env)).all (fun x => !x.1) && (backToKw cpos (keywordEach [] X.env)).all (fun x => x.1.isSome)
      && decide ([e].length + ([] : List Keyword).length + (if ([] : List Keyword).isEmpty then 0 else 1) < 30)) = true := by rfl)
    (hline : (apos.endLine == cpos.line) = true := by rfl) (hs : starEach [e] X.env = (false, eval e X.env) :: starEach [] X.env := by rfl) (hplain : (backTo cpos (starEach [] X.env)).any (·.1) = false := by rfl)
    (hsw : swapsWith (.Call (.Attribute (.Subscript (.Name x p2) ke p3) "append" apos) [e] [] cpos) none pos.line X.env = pure false := by rfl) :
    SX X A W (.Expr (.Call (.Attribute (.Subscript (.Name x p2) ke p3) "append" apos) [e] [] cpos) pos) (sAppAt i fk f) :=
  PS.imp (ps_expr (pe_bm PySem.F.plainAttrs_list PySem.F.slot_list_append PySem.F.type_list_append mt_append (pe_ix ix_list (pe_var hi hx hd hcd) hk hsub) (pa_cons he pa_nil hs) hbase hfew hline hs hplain) hsw) fun Dn σ H ⟨Z0, H0, Hz, S, m, q⟩ => by
    unfold sAppAt at q
    split at q
    · rename_i dss e1
      obtain ⟨p, as, ev, o2⟩ := m.sl i _ e1
      refine ⟨.ref p, getD_some ev, Z0, H0, Hz, S, m, PO.bind m q fun kd q vk Hz1 H1 st1 rk => ?_⟩
      split at q
      · rename_i k
        split at q
        · rename_i j hj
          split at q
          · rename_i ds hds
            have m1 := m.stp st1
            obtain ⟨p', as1, ev', o21⟩ := m1.sl i _ e1
            rw [ev] at ev'; cases ev'
            obtain ⟨a, xs, ha, hat, hax, ra, hza⟩ := o21.atI hj hds
            refine ⟨p, _, k, .ref a, rfl, Rp.int_inv rk, SqL.of o21.top, hat, .inl ⟨rfl, xs, SqL.of hax⟩, Z0, H0, Hz1, S, m1, PO.bind m1 (q.ez st1.exz) fun d q v Hz2 H2 st2 rv => ?_⟩
            split at q
            · rename_i hl
              have m2 := m1.stp st2
              obtain ⟨p', as2, ev', o22⟩ := m2.sl i _ e1
              rw [ev] at ev'; cases ev'
              have eas : as2 = as1 := refs_inj (by
                have h1 := st2.ex _ _ o21.top
                rw [o22.top] at h1
                injection h1 with h1; injection h1 with h1)
              subst eas
              have ra2 := ra.mono st2.exz
              exact ⟨a, xs, v, rfl, rfl, st2.ex _ _ hax, lim' (by rw [ra2.length]; omega), q Hz2 _ σ st2.exz (m2.o2 e1 ev o22 ha (ra2.snoc rv))⟩
            · exact q.elim
          · exact q.elim
        · exact q.elim
      · exact q.elim
    · exact q.elim
/-- xs[k] = e -/
def sSetAt (i : Nat) (fk f : Sg → Rs D) : Sg → Out := fun S => (f S).thenO S fun d => match S[i]? with
  | some (.ow ds) => (fk S).thenO S fun kd => match kd with
    | .int k => (match ixN ds.length k with
      | some j => .nx (S.set i (.ow (ds.set j d)))
      | none => .no)
    | _ => .no
  | _ => .no
theorem sx_setAt {i : Nat} {x : Str} {ke : Expr} {p2 p3 : Pos} {fk f : Sg → Rs D} (hi : X.N[i]? = some x) (hx : Vis X.env.scope x) (hk : EK X A W .rd ke fk) (he : EK X A W .st e f)
    (ha : ∀ v, assign (.Subscript (.Name x p2) ke p3) X.env v = (do
      let ov ← holding [v] (eval (.Name x p2) X.env)
      let iv ← holding [v, ov] (eval ke X.env)
      standAt p3
      holding [v, ov, iv] (setItem ov iv v)
      release [v, ov, iv] []) := by intro _; rfl)
    (hs : swapsWithSole [.Subscript (.Name x p2) ke p3] e pos.line X.env = pure false := by rfl) (hw : swappedStores [.Subscript (.Name x p2) ke p3] e X.env = pure none := by rfl)
    (h1 : (assignEach [.Subscript (.Name x p2) ke p3] X.env).map (·.2) = [assign (.Subscript (.Name x p2) ke p3) X.env] := by rfl) (hd : (x == ("__debug__" : Str)) = false := by decide) (hcd : (x == ("__classdict__" : Str)) = false := by decide) :
    SX X A W (.Assign [.Subscript (.Name x p2) ke p3] e pos) (sSetAt i fk f) :=
  PS.imp (ps_asg he (pg_sub (pe_var hi hx hd hcd) hk set_list ha) hs hw h1) fun Dn σ H ⟨Z0, H0, Hz, S, m, q⟩ => by
    refine ⟨Z0, H0, Hz, S, m, PO.bind m q fun d q v Hz1 H1 st1 rv => ?_⟩
    split at q
    · rename_i ds e1
      have m1 := m.stp st1
      obtain ⟨p, xs, ev, hp, r, _⟩ := m1.lst (ds' := []) e1
      refine ⟨.ref p, ev, Z0, H0, Hz1, S, m1, PO.bind m1 (q.ez st1.exz) fun kd q vk Hz2 H2 st2 rk => ?_⟩
      split at q
      · rename_i k
        split at q
        · rename_i j hj
          have m2 := m1.stp st2
          obtain ⟨p', xs', ev', hp', r', mk⟩ := m2.lst (ds' := ds.set j d) e1
          rw [ev] at ev'; cases ev'
          exact ⟨p, xs', k, j, rfl, Rp.int_inv rk, hp', by rw [r'.length]; exact hj, q Hz2 _ σ st2.exz (mk _ (r'.set j (rv.mono st2.exz)))⟩
        · exact q.elim
      · exact q.elim
    · exact q.elim
/-- xs.clear(), xs.reverse() -/
def sClear (i : Nat) : Sg → Out := fun S => match S[i]? with
  | some (.ow _) => .nx (S.set i (.ow []))
  | some (.o2 _) => .nx (S.set i (.ow []))
  | _ => .no
def sReverse (i : Nat) : Sg → Out := fun S => match S[i]? with
  | some (.ow ds) => .nx (S.set i (.ow ds.reverse))
  | _ => .no
theorem sx_clear {i : Nat} {x : Str} {p2 apos cpos : Pos} (hi : X.N[i]? = some x) (hx : Vis X.env.scope x) (hd : (x == ("__debug__" : Str)) = false := by decide) (hcd : (x == ("__classdict__" : Str)) = false := by decide)
    (hbase : attributeBase (.Name x p2) "clear" X.env (eval (.Name x p2) X.env) = eval (.Name x p2) X.env := by rfl) (hline : (apos.endLine == cpos.line) = true := by rfl)
    (hsw : swapsWith (.Call (.Attribute (.Name x p2) "clear" apos) [] [] cpos) none pos.line X.env = pure false := by rfl) :
    SX X A W (.Expr (.Call (.Attribute (.Name x p2) "clear" apos) [] [] cpos) pos) (sClear i) :=
  PS.imp (ps_expr (pe_bm0 PySem.F.plainAttrs_list PySem.F.slot_list_clear PySem.F.type_list_clear mt_clear (pe_var hi hx hd hcd) hbase hline) hsw) fun Dn σ H ⟨Z0, H0, Hz, S, m, q⟩ => by
    unfold sClear at q
    split at q
    · rename_i ds e1
      obtain ⟨p, xs, ev, hp, r, mk⟩ := m.lst (ds' := []) e1
      exact ⟨.ref p, ev, .inl ⟨rfl, xs, SqL.of hp⟩, p, xs, rfl, rfl, hp, q Hz _ σ (.refl _) (mk _ .nil)⟩
    · rename_i dss e1
      obtain ⟨p, as, ev, o2⟩ := m.sl i _ e1
      refine ⟨.ref p, getD_some ev, .inl ⟨rfl, _, SqL.of o2.top⟩, p, _, rfl, rfl, o2.top, q Hz _ σ (.refl _) ?_⟩
      exact m.mut e1 (a := p) (.inl ev) ⟨p, [], ev, upd_same, o2.hz, .nil⟩ fun b w => .inl (.inl w)
    · exact q.elim
theorem sx_reverse {i : Nat} {x : Str} {p2 apos cpos : Pos} (hi : X.N[i]? = some x) (hx : Vis X.env.scope x) (hd : (x == ("__debug__" : Str)) = false := by decide) (hcd : (x == ("__classdict__" : Str)) = false := by decide)
    (hbase : attributeBase (.Name x p2) "reverse" X.env (eval (.Name x p2) X.env) = eval (.Name x p2) X.env := by rfl) (hline : (apos.endLine == cpos.line) = true := by rfl)
    (hsw : swapsWith (.Call (.Attribute (.Name x p2) "reverse" apos) [] [] cpos) none pos.line X.env = pure false := by rfl) :
    SX X A W (.Expr (.Call (.Attribute (.Name x p2) "reverse" apos) [] [] cpos) pos) (sReverse i) :=
  PS.imp (ps_expr (pe_bm0 PySem.F.plainAttrs_list PySem.F.slot_list_reverse PySem.F.type_list_reverse mt_reverse (pe_var hi hx hd hcd) hbase hline) hsw) fun Dn σ H ⟨Z0, H0, Hz, S, m, q⟩ => by
    unfold sReverse at q
    split at q
    · rename_i ds e1
      obtain ⟨p, xs, ev, hp, r, mk⟩ := m.lst (ds' := ds.reverse) e1
      exact ⟨.ref p, ev, .inl ⟨rfl, xs, SqL.of hp⟩, p, xs, rfl, rfl, hp, q Hz _ σ (.refl _) (mk _ r.reverse)⟩
    · exact q.elim

/-! ### if, for, while, return, raise -/
def sIf (t : Sg → Rs Bool) (f g : Sg → Out) : Sg → Out := fun S => (t S).thenO S fun b => if b = true then f S else g S
theorem sx_if {t : Sg → Rs Bool} {f g : Sg → Out} {p q : List Stmt} (ht : ET X A W c t) (hp : SB X A W p f) (hq : SB X A W q g) : SX X A W (.If c p q pos) (sIf t f g) := PS.imp (ps_if ht hp hq) fun Dn σ H ⟨Z0, H0, Hz, S, m, q⟩ => by
  refine ⟨Z0, H0, Hz, S, m, PO.bind m q fun b q Hz' H' st => ?_⟩
  cases b with
  | true => exact ⟨Z0, H0, Hz', S, m.stp st, PO.ez q st.exz⟩
  | false => exact ⟨Z0, H0, Hz', S, m.stp st, PO.ez q st.exz⟩
def loopF (j : Nat) (g : Sg → Out) : List D → Sg → Out
  | [], S => .nx S
  | x :: xs, S => match g (S.set j (.sh x)) with
    | .nx S' => loopF j g xs S'
    | .ct S' => loopF j g xs S'
    | .bk S' => .nx S'
    | .rt r => .rt r
    | .ex c S' => .ex c S'
    | .no => .no
def sFor (j : Nat) (it : Sg → Rs (List D)) (g : Sg → Out) : Sg → Out := fun S => (it S).thenO S fun ds => loopF j g ds S
theorem sx_for {j : Nat} {x : Str} {iter : Expr} {tpos : Pos} {body : List Stmt} {it : Sg → Rs (List D)} {g : Sg → Out} (hp : PassesOwn (model X.prog X.w) X.A X.env X.xe) (hc : X.calm = true) (hi : IX X A W (.Name x tpos) iter it) (hN : X.N.Nodup) (hj : X.N[j]? = some x) (hx : Loc X.env.scope x)
    (hb : SB X A W body g) (hf : X.fn x = true ∨ X.env.scope.names.lookup x = some .local := by first | exact .inl rfl | exact .inr rfl | assumption) (hs : ∀ x, foldedSetIterable iter X.env x = pure x := by intro _; rfl) : SX X A W (.For (.Name x tpos) iter body [] pos) (sFor j it g) :=
  PS.imp (ps_for hp hc hi (pg_name hN hj hx hf) hb hs) fun Dn σ H ⟨Z0, H0, Hz, S, m, q⟩ => by
    refine ⟨Z0, H0, Hz, S, m, PO.bind m q fun ds q J Hz1 H1 st1 io => ?_⟩
    let P : Nat → Nat → L2.St → Hp → Prop := fun i n σ' H' => n = ds.length - i ∧ i ≤ ds.length ∧ ∃ Hz' S', Ex Hz1 Hz' ∧ Mt X.K Z0 H0 Hz' H' S' σ' ∧ PO X.K A W Z0 H0 Hz1 Dn (loopF j g (ds.drop i) S')
    refine ⟨P, ⟨ds.length, rfl, Nat.zero_le _, Hz1, S, .refl _, m.stp st1, q.ez st1.exz⟩, ?_⟩
    rintro i n σ' H' ⟨rfl, hi, Hz', S', ez, m', q'⟩
    by_cases hlt : i < ds.length
    · refine .inr ⟨io.go i H' (ez.trans m'.st.sub) hlt, P (i + 1) (ds.length - (i + 1)), fun σ2 H2 p => ⟨_, by omega, p⟩, fun x H'' y => ?_⟩
      obtain ⟨rfl, rx⟩ := io.yld i H' x H'' ds[i] (ez.trans m'.st.sub) (List.getElem?_eq_getElem hlt) y
      rw [List.drop_eq_getElem_cons hlt, loopF] at q'
      refine ⟨Z0, H0, Hz', S'.set j (.sh ds[i]), m'.set_new (.refl m'.st.sub) ⟨x, rfl, rx.mono ez⟩ fun _ w => w.elim, ?_⟩
      cases hg : g (S'.set j (.sh ds[i])) with
      | nx S2 => rw [hg] at q'; exact fun Hz2 H2 σ2 e2 m2 => ⟨rfl, hlt, Hz2, S2, ez.trans e2, m2, q'⟩
      | ct S2 => rw [hg] at q'; exact fun Hz2 H2 σ2 e2 m2 => ⟨rfl, hlt, Hz2, S2, ez.trans e2, m2, q'⟩
      | bk S2 => rw [hg] at q'; exact fun Hz2 H2 σ2 e2 m2 => q' Hz2 H2 σ2 (ez.trans e2) m2
      | rt r => rw [hg] at q'; exact q'
      | ex c S2 => rw [hg] at q'; exact fun Hz2 H2 σ2 e2 m2 => q' Hz2 H2 σ2 (ez.trans e2) m2
      | no => rw [hg] at q'; exact q'
    · have e : i = ds.length := by omega
      subst e
      rw [List.drop_length, loopF] at q'
      exact .inl ⟨io.stop H' (ez.trans m'.st.sub), q' Hz' H' σ' ez m'⟩
def whileF (t : Sg → Rs Bool) (g : Sg → Out) : Nat → Sg → Out
  | 0, _ => .no
  | n + 1, S => (t S).thenO S fun b => if b = true then (match g S with
    | .nx S' => whileF t g n S'
    | .ct S' => whileF t g n S'
    | .bk S' => .nx S'
    | .rt r => .rt r
    | .ex c S' => .ex c S'
    | .no => .no) else .nx S
theorem sx_while {t : Sg → Rs Bool} {g : Sg → Out} {body : List Stmt} (n : Nat) (hp : PassesOwn (model X.prog X.w) X.A X.env X.xe) (ht : ET X A W c t) (hb : SB X A W body g) : SX X A W (.While c body [] pos) (whileF t g n) :=
  PS.imp (ps_while hp ht hb) fun Dn σ H ⟨Z0, H0, Hz, S, m, q⟩ => by
    refine ⟨fun k σ' H' => ∃ Hz' S', Ex Hz Hz' ∧ Mt X.K Z0 H0 Hz' H' S' σ' ∧ PO X.K A W Z0 H0 Hz Dn (whileF t g k S'), ⟨n, Hz, S, .refl _, m, q⟩, ?_⟩
    rintro k σ' H' ⟨Hz', S', ez, m', q'⟩
    cases k with
    | zero => exact q'.elim
    | succ k =>
      rw [whileF] at q'
      refine ⟨Z0, H0, Hz', S', m', ?_⟩
      cases ht : t S' with
      | no => rw [ht] at q'; exact q'.elim
      | ex c => rw [ht] at q'; exact fun Hz2 H2 s => q' Hz2 H2 σ' (ez.trans s.exz) (m'.stp s)
      | ok b =>
      rw [ht] at q'
      intro Hz1 H1 st1
      replace q' : PO X.K A W Z0 H0 Hz Dn (if b = true then _ else _) := q'
      cases b with
      | false =>
        rw [if_neg Bool.false_ne_true] at q'
        exact iteF (q' Hz1 H1 σ' (ez.trans st1.exz) (m'.stp st1))
      | true =>
        rw [if_pos rfl] at q'
        refine iteT ⟨fun σ2 H2 => ∃ Hz2 S2, Ex Hz Hz2 ∧ Mt X.K Z0 H0 Hz2 H2 S2 σ2 ∧ PO X.K A W Z0 H0 Hz Dn (whileF t g k S2), fun σ2 H2 p => ⟨k, Nat.lt_succ_self k, p⟩, Z0, H0, Hz1, S', m'.stp st1, ?_⟩
        have back := q'
        cases hg : g S' with
        | nx S2 => rw [hg] at back; exact fun Hz2 H2 σ2 e2 m2 => ⟨Hz2, S2, (ez.trans st1.exz).trans e2, m2, back⟩
        | ct S2 => rw [hg] at back; exact fun Hz2 H2 σ2 e2 m2 => ⟨Hz2, S2, (ez.trans st1.exz).trans e2, m2, back⟩
        | bk S2 => rw [hg] at back; exact fun Hz2 H2 σ2 e2 m2 => back Hz2 H2 σ2 ((ez.trans st1.exz).trans e2) m2
        | rt r => rw [hg] at back; exact back
        | ex c S2 => rw [hg] at back; exact fun Hz2 H2 σ2 e2 m2 => back Hz2 H2 σ2 ((ez.trans st1.exz).trans e2) m2
        | no => rw [hg] at back; exact back
end
end Sh

/-! ## Part G: return, raise, defs, calls, dicts -/
namespace Sh
open PySem PySem.Spec PyProof.Rows L2

section
variable {X : Cx} {A : Nat → Addr} {W : WX} {a b c e : Expr} {es : List Expr} {k k1 k2 k3 : Kd} {pos : Pos} {fa fb : Sg → Rs D}
def sRet (f : Sg → Rs Sl) : Sg → Out := fun S => (f S).thenO S fun r => .rt r
theorem sx_ret {f : Sg → Rs Sl} (h : EX X A W e f) : SX X A W (.Return (some e) pos) (sRet f) := PS.imp (ps_ret h) fun Dn σ H ⟨Z0, H0, Hz, S, m, q⟩ =>
  ⟨Z0, H0, Hz, S, m, PO.bind m q fun r q => PV.stp q m.st⟩
def sRetN : Sg → Out := fun _ => .rt (.sh .none)
theorem sx_retN : SX X A W (.Return none pos) sRetN := PS.imp ps_retN fun Dn σ H ⟨Z0, H0, Hz, S, m, q⟩ => pv_sh m.st.sub (PV.stp q m.st) .non
/-- return x, x's own thing and all -/
def sRetV (i : Nat) : Sg → Out := fun S => match S[i]? with
  | some s => (match s.d? with | some _ => .rt s | none => .no)
  | none => .no
theorem sx_retV {i : Nat} {x : Str} {p2 : Pos} (hi : X.N[i]? = some x) (hx : Vis X.env.scope x) (hd : (x == ("__debug__" : Str)) = false := by decide) (hcd : (x == ("__classdict__" : Str)) = false := by decide) : SX X A W (.Return (some (.Name x p2)) pos) (sRetV i) :=
  PS.imp (ps_ret (pe_var hi hx hd hcd)) fun Dn σ H ⟨Z0, H0, Hz, S, m, q⟩ => by
    unfold sRetV at q
    cases e : S[i]? with
    | none => rw [e] at q; exact q.elim
    | some s =>
      rw [e] at q
      simp only at q
      cases hd : s.d? with
      | none => rw [hd] at q; exact q.elim
      | some d =>
        rw [hd] at q
        obtain ⟨v, ev, _⟩ := (m.sl i s e).rd hd m.st.sub
        exact ⟨v, getD_some ev, q v Hz H m.st (by rw [← ev]; exact m.sl i s e) fun a w => m.hz i s a e (by rw [ev]; exact w)⟩
/-- an expression whose value is dropped -/
def sDrop (f : Sg → Rs Sl) : Sg → Out := fun S => (f S).thenO S fun _ => .nx S
theorem sx_drop {f : Sg → Rs Sl} (h : EX X A W e f) (hs : swapsWith e none pos.line X.env = pure false := by rfl) : SX X A W (.Expr e pos) (sDrop f) := PS.imp (ps_expr h hs) fun Dn σ H ⟨Z0, H0, Hz, S, m, q⟩ =>
  ⟨Z0, H0, Hz, S, m, PO.bind m q fun r q v Hz' H' st _ _ => q Hz' H' σ st.exz (m.stp st)⟩
theorem sx_pass : SX X A W (.Pass pos) sNext := PS.imp ps_pass fun Dn σ H ⟨Z0, H0, Hz, S, m, q⟩ => q Hz H σ (.refl _) m
/-- raise X('..') -/
def sRaise (c : Nat) : Sg → Out := fun S => .ex c S
/-- what is known of an own class of error -/
structure ExcK (K : PySem.W.Frag) (mg : Str → Option Value) (A : Nat → Addr) (x : Str) (c : Nat) : Prop where
  gC : mg x = some (.ref (A c))
  xC : PySem.W.excIn K (A c) [.type "ValueError", .type "Exception", .type "BaseException", .type "object"] "ValueError.__new__" = true
  kC : PySem.W.keepIn K (.ref (A c)) = true
  bC : PySem.W.subIn K (.ref (A c)) (.type "BaseException") = some true
  tC : PySem.W.typeIn K (.ref (A c)) = some (.type "type")
theorem sx_raise {x m : Str} {cn : Nat} {j : Nat} {p p2 p3 : Pos} (hc : X.calm = true) (tk : Takes X W) (T : ExcK X.K X.mg A x cn) (hg : Gl X x := by rfl) (hdb : (x == ("__debug__" : Str)) = false := by decide) : SX X A W (.Raise (some (.Call (.Name x p) [.Constant (.str m) j p2] [] p3)) none pos) (sRaise cn) :=
  PS.imp (ps_raise hc tk (pmk_own PySem.F.excBase_ValueError T.xC T.gC T.kC (raises_own T.bC T.tC) hg hdb)) fun Dn σ H ⟨Z0, H0, Hz, S, m, q⟩ => q Hz H σ (.refl _) m

/-! ### calls of defs -/
/-- the promise: what F says of the data handed in -/
def spF (K : PySem.W.Frag) (A : Nat → Addr) (F : List D → Rs Sl) : Sp := fun vs H Q E => ∃ Hz ds, Ex Hz H ∧ RpAll K Hz vs ds ∧ PR A (fun c d _ H => E c d H) [] Hz H (PV K Hz H Q) (F ds)
/-- a def: n slots, np parameters -/
def fnF (n np : Nat) (g : List D → Sg → Out) : List D → Rs Sl := fun ds => if ds.length = np then (match g ds (ds.map Sl.sh ++ List.replicate (n - ds.length) .un) with
  | .nx _ => .ok (.sh .none)
  | .rt r => .ok r
  | .ex c _ => .ex c
  | _ => .no) else .no
theorem mt_start {K : PySem.W.Frag} {Hz H : Hp} {vs : List V} {ds : List D} {n : Nat} (e : Ex Hz H) (r : RpAll K Hz vs ds) : Mt K Hz H Hz H (ds.map Sl.sh ++ List.replicate (n - ds.length) .un) (vs.map some ++ List.replicate (n - vs.length) none) := by
  have hl := r.length
  refine ⟨.refl e, by simp [hl], fun i s h => ?_, fun i s a h w => ?_, fun i j s t a h g w x => ?_⟩
  · by_cases hi : i < ds.length
    · rw [List.getElem?_append_left (by simpa using hi), List.getElem?_map, List.getElem?_eq_getElem hi] at h
      cases h
      obtain ⟨v, hv, rv⟩ := r.get (List.getElem?_eq_getElem hi)
      refine ⟨v, ?_, rv⟩
      rw [List.getD_eq_getElem?_getD, List.getElem?_append_left (by rw [List.length_map, hl]; exact hi), List.getElem?_map, hv]; rfl
    · rw [List.getElem?_append_right (by simpa using hi)] at h
      obtain ⟨_, h⟩ := List.getElem?_eq_some_iff.mp h
      rw [List.getElem_replicate] at h
      subst h; trivial
  all_goals
    have key : ∀ i s a, (ds.map Sl.sh ++ List.replicate (n - ds.length) .un)[i]? = some s → ¬ Ow H s ((vs.map some ++ List.replicate (n - vs.length) none).getD i none) a := fun i s a h w => by
      have : s ∈ ds.map Sl.sh ++ List.replicate (n - ds.length) .un := List.mem_of_getElem? h
      rcases List.mem_append.mp this with q | q
      · obtain ⟨d, _, rfl⟩ := List.mem_map.mp q; exact w
      · rw [(List.mem_replicate.mp q).2] at w; exact w
  · exact (key i s a h w).elim
  · exact (key i s a h w).elim
theorem fn_okF {P : Program} {w : World} {K : PySem.W.Frag} {mg : Str → Option Value} {base : Heap} {A : Nat → Addr} {x qual : Str} {st : Stmt} {f : Addr} {fd : FuncData} {N ps : List Str} {k : Nat} {g : List D → Sg → Out} (F : Fun K x qual st f fd) (S : FnScope N ps (defScope st))
    (hb : ∀ (cdv : Value) (A0 : Around) (outer : List Env) (s : Shared) (H : Hp) (E : XK) (ds : List D), Room k (A0.deeper (envOfC qual (defScope st) s.heap.objs.size f cdv)) →
      SB (cxOf (L2.CX P w) P w K mg base N qual (defScope st) f cdv A0 outer s H E) A (fun c d _ H => E c d H) (defBody st) (g ds)) : FnOk P w K mg base (L2.CX P w) (k + 1) f fd ps (spF K A (fnF N.length ps.length g)) := by
  refine F.okX S (fun vs H Q E h => ?_) (fun cdv A0 outer s H vs Q E hr h => ?_)
  · obtain ⟨Hz, ds, e, r, q⟩ := h
    unfold fnF at q
    split at q
    · rename_i hl
      rw [r.length, hl]
    · exact q.elim
  · obtain ⟨Hz, ds, e, r, q⟩ := h
    refine ⟨_, hb cdv A0 outer s H E ds hr, Hz, H, Hz, _, mt_start (n := N.length) e r, ?_⟩
    unfold fnF at q
    split at q
    · cases hg : g ds (ds.map Sl.sh ++ List.replicate (N.length - ds.length) .un) with
      | nx S' =>
        rw [hg] at q
        exact fun Hz' H' σ' _ m' => q .non Hz' H' m'.st ⟨_, rfl, .non⟩ fun _ w => w.elim
      | rt r => rw [hg] at q; exact q
      | ex c S' => rw [hg] at q; exact fun Hz' H' σ' _ m' => q Hz' H' m'.st
      | bk S' => rw [hg] at q; exact q.elim
      | ct S' => rw [hg] at q; exact q.elim
      | no => rw [hg] at q; exact q.elim
    · exact q.elim
/-- f(e, ..): what is handed in stands still; the result too, or is new -/
theorem ex_call {CX : CXT} {kk : Nat} {f : Addr} {fd : FuncData} {ps : List Str} {F : List D → Rs Sl} {x : Str} {p : Pos} {fa : Sg → Rs (List D)} (G : FnOk X.prog X.w X.K X.mg X.base CX kk f fd ps (spF X.K A F)) (hr : Room kk X.A) (hg : Gl X x) (hm : X.mg x = some (.ref f)) (hk : PySem.W.keepIn X.K (.ref f) = true) (hb : Binds X.K fd ps [])
    (hx : ∀ σ, PassesAt CX X σ (WE W σ)) (ha : EA X A W .st (e :: es) fa) (hd : (x == ("__debug__" : Str)) = false := by decide) (he : starEach (e :: es) X.env = (false, eval e X.env) :: starEach es X.env := by rfl) (hpl : (backTo pos (starEach es X.env)).any (·.1) = false := by rfl) :
    EX X A W (.Call (.Name x p) (e :: es) [] pos) (fApp F fa) := PE.imp (pe_callS G hr hg hm hk hb hx ha hd he hpl) fun σ H Q ⟨Z0, H0, Hz, S, m, q⟩ => by
  refine ⟨Z0, H0, Hz, S, m, PR.bind q fun ds q vs Hz' H' st r => ?_⟩
  refine ⟨Hz', ds, st.sub, KAll.all r, ?_⟩
  have q' := q.stp st fun _ q => PV.stp q st
  cases hF : F ds with
  | ok s => rw [hF] at q'; exact q'
  | ex c => rw [hF] at q'; exact q'
  | no => rw [hF] at q'; exact q'
def scalD : D → Bool
  | .none => true
  | .bool _ => true
  | .int _ => true
  | .str _ => true
  | _ => false
theorem scal_rp {K : PySem.W.Frag} {H H' : Hp} {v : V} {d : D} (h : scalD d = true) (r : Rp K H v d) : Rp K H' v d := by
  cases r with
  | non => exact .non
  | bl b => exact .bl b
  | int i => exact .int i
  | str x => exact .str x
  | lst _ _ => cases h
  | tup _ _ => cases h
  | scr _ => cases h
theorem scal_all {K : PySem.W.Frag} {H H' : Hp} : ∀ {vs : List V} {ds : List D}, ds.all scalD = true → RpAll K H vs ds → RpAll K H' vs ds
  | _, _, _, .nil => .nil
  | _, _, h, .cons r t => by
    rw [List.all_cons, Bool.and_eq_true] at h
    exact .cons (scal_rp h.1 r) (scal_all h.2 t)
/-- a result that has no more than numbers and texts -/
def flatS : Sl → Rs Sl
  | .sh d => if scalD d = true then .ok (.sh d) else .no
  | .ow ds => if ds.all scalD = true then .ok (.ow ds) else .no
  | _ => .no
def fAppR (F : List D → Rs Sl) (fa : Sg → Rs (List D)) : Sg → Rs Sl := fun S => (fa S).bind fun ds => (F ds).bind flatS
/-- f(e, ..): what is handed in is read only; the result is flat -/
theorem ex_callR {CX : CXT} {kk : Nat} {f : Addr} {fd : FuncData} {ps : List Str} {F : List D → Rs Sl} {x : Str} {p : Pos} {fa : Sg → Rs (List D)} (G : FnOk X.prog X.w X.K X.mg X.base CX kk f fd ps (spF X.K A F)) (hr : Room kk X.A) (hg : Gl X x) (hm : X.mg x = some (.ref f)) (hk : PySem.W.keepIn X.K (.ref f) = true) (hb : Binds X.K fd ps [])
    (hx : ∀ σ, PassesAt CX X σ (WE W σ)) (ha : EA X A W .rd (e :: es) fa) (hd : (x == ("__debug__" : Str)) = false := by decide) (he : starEach (e :: es) X.env = (false, eval e X.env) :: starEach es X.env := by rfl) (hpl : (backTo pos (starEach es X.env)).any (·.1) = false := by rfl) :
    EX X A W (.Call (.Name x p) (e :: es) [] pos) (fAppR F fa) := PE.imp (pe_callS G hr hg hm hk hb hx ha hd he hpl) fun σ H Q ⟨Z0, H0, Hz, S, m, q⟩ => by
  refine ⟨Z0, H0, Hz, S, m, PR.bind q fun ds q vs Hz' H' st r => ?_⟩
  refine ⟨H', ds, .refl _, KAll.rall r st.sub, ?_⟩
  have q' := q.stp st fun _ q => PV.stp q st
  -- a step from H' as a whole is one from Hz' too
  have down : ∀ {Hy H2 : Hp}, Stp H' H' Hy H2 → Stp Hz' H' Hz' H2 := fun s => ⟨s.ex, .refl _, st.sub.trans s.ex, fun _ _ _ _ h => h⟩
  cases hF : F ds with
  | no => rw [hF] at q'; exact q'
  | ex c => rw [hF] at q'; exact fun Hy H2 s => q' Hz' H2 (down s)
  | ok s =>
    rw [hF, Rs.bind_ok] at q'
    intro v Hy H2 s2 sr fr
    unfold flatS at q'
    split at q'
    · split at q'
      · rename_i hs
        obtain ⟨v', ev, rv⟩ := sr
        cases ev
        exact q' v Hz' H2 (down s2) ⟨v, rfl, scal_rp hs rv⟩ fun _ w => w.elim
      · exact q'.elim
    · split at q'
      · rename_i ds' hs
        obtain ⟨a, xs, ev, ha, hz, ra⟩ := sr
        cases ev
        have na : H' a = none := fr a rfl
        refine q' (.ref a) Hz' H2 (down s2) ⟨a, xs, rfl, ha, st.sub.none na, scal_all hs ra⟩ fun b w => fr b w
      · exact q'.elim
    · exact q'.elim

/-! ### dicts -/
def keyK : D → Option Key
  | .int i => some (.inl i)
  | .str x => some (.inr x)
  | _ => none
def keysOf : List D → Option (List Key)
  | [] => some []
  | d :: r => match keyK d, keysOf r with
    | some k, some ks => some (k :: ks)
    | _, _ => none
def keyT : D → Option (List Key)
  | .tuple ds => keysOf ds
  | _ => none
def valD {κ : Type} [DecidableEq κ] (kvs : List (κ × D)) (k : κ) : Option D := (kvs.find? fun kv => decide (kv.1 = k)).map (·.2)
def putD {κ : Type} [DecidableEq κ] (kvs : List (κ × D)) (k : κ) (v : D) : List (κ × D) :=
  if (kvs.any fun kv => decide (kv.1 = k)) = true then kvs.map (fun kv => if kv.1 = k then (kv.1, v) else kv) else kvs ++ [(k, v)]
theorem keyK_rp {K : PySem.W.Frag} {H : Hp} {v : V} {d : D} {k : Key} (h : keyK d = some k) (r : Rp K H v d) : v = kV k := by
  cases r with
  | int i => cases h; rfl
  | str x => cases h; rfl
  | _ => cases h
theorem keysOf_rp {K : PySem.W.Frag} {H : Hp} : ∀ {vs : List V} {ds : List D} {ks : List Key}, keysOf ds = some ks → RpAll K H vs ds → vs = ks.map kV
  | _, _, _, h, .nil => by cases h; rfl
  | _, d :: ds, ks, h, .cons r t => by
    simp only [keysOf] at h
    cases h1 : keyK d with
    | none => rw [h1] at h; cases h
    | some k =>
      cases h2 : keysOf ds with
      | none => rw [h1, h2] at h; cases h
      | some ks' =>
        rw [h1, h2] at h; cases h
        rw [keyK_rp h1 r, keysOf_rp h2 t]; rfl
theorem keyT_rp {K : PySem.W.Frag} {H : Hp} {v : V} {d : D} {ks : List Key} (h : keyT d = some ks) (r : Rp K H v d) : ∃ b, v = .ref b ∧ H b = some (.tup (ks.map kV)) := by
  cases r with
  | tup hb rr =>
    have := keysOf_rp h rr
    subst this
    exact ⟨_, rfl, hb⟩
  | _ => cases h
section
variable {K : PySem.W.Frag} {Hz H : Hp} {κ : Type} [DecidableEq κ] {ws : List (κ × V)} {kvs : List (κ × D)} {kk : κ}
theorem DcR.val (r : DcR K H ws kvs) (kk : κ) : (valV ws kk).isSome = (valD kvs kk).isSome ∧ ∀ d, valD kvs kk = some d → ∃ v, valV ws kk = some v ∧ Rp K H v d := by
  unfold DcR at r
  induction r with
  | nil => exact ⟨rfl, fun d h => by cases h⟩
  | @cons p q ws kvs r t ih =>
    obtain ⟨e, rp⟩ := r
    unfold valV valD at ih ⊢
    by_cases h : q.1 = kk
    · have h' : p.1 = kk := e.trans h
      simp only [List.find?_cons, h, h', decide_true, Option.map_some, Option.isSome_some, true_and]
      intro d hd
      cases hd
      exact ⟨_, rfl, rp⟩
    · have h' : ¬ p.1 = kk := fun z => h (e.symm.trans z)
      simp only [List.find?_cons, h, h', decide_false]
      exact ih
theorem DcR.any (r : DcR K H ws kvs) (kk : κ) : (ws.any fun kv => decide (kv.1 = kk)) = kvs.any fun kv => decide (kv.1 = kk) := by
  unfold DcR at r
  induction r with
  | nil => rfl
  | cons r t ih =>
    obtain ⟨e, rp⟩ := r
    rw [List.any_cons, List.any_cons, ih, e]
theorem DcR.put {v : V} {d : D} (r : DcR K H ws kvs) (kk : κ) (rv : Rp K H v d) : DcR K H (putK ws kk v) (putD kvs kk d) := by
  unfold putK putD
  rw [r.any kk]
  split
  · have go : ∀ {ws : List (κ × V)} {kvs : List (κ × D)}, DcR K H ws kvs → DcR K H (ws.map fun kv => if kv.1 = kk then (kv.1, v) else kv) (kvs.map fun kv => if kv.1 = kk then (kv.1, d) else kv) := by
      intro ws kvs h
      unfold DcR at h
      induction h with
      | nil => exact .nil
      | @cons p q _ _ r t ih =>
        obtain ⟨e, rp⟩ := r
        refine .cons ?_ ih
        dsimp only
        by_cases h : q.1 = kk
        · rw [if_pos h, if_pos (e.trans h)]; exact ⟨e, rv⟩
        · rw [if_neg h, if_neg fun z => h (e.symm.trans z)]; exact ⟨e, rp⟩
    exact go r
  · have go : ∀ {ws : List (κ × V)} {kvs : List (κ × D)}, DcR K H ws kvs → DcR K H (ws ++ [(kk, v)]) (kvs ++ [(kk, d)]) := by
      intro ws kvs h
      unfold DcR at h
      induction h with
      | nil => exact .cons ⟨rfl, rv⟩ .nil
      | cons r t ih => exact .cons r ih
    exact go r
theorem DcR.length (r : DcR K H ws kvs) : ws.length = kvs.length := Paired.length r
end
/-- the value at a key of the dict in slot i -/
def fDGet (i : Nat) (fk : Sg → Rs D) : Sg → Rs D := fun S => match S[i]? with
  | some (.od kvs) => (fk S).bind fun d => match keyK d with
    | some k => (match valD kvs k with
      | some v => .ok v
      | none => .no)
    | none => .no
  | some (.ot kvs) => (fk S).bind fun d => match keyT d with
    | some k => (match valD kvs k with
      | some v => .ok v
      | none => .no)
    | none => .no
  | _ => .no
theorem et_dget {i : Nat} {x : Str} {p2 : Pos} {fk : Sg → Rs D} (hu : X.A.units + 1 < cLine) (hi : X.N[i]? = some x) (hx : Vis X.env.scope x) (hk : EK X A W .rd e fk) (hs : NoSl e) (hd : (x == ("__debug__" : Str)) = false := by decide) (hcd : (x == ("__classdict__" : Str)) = false := by decide) : EK X A W .st (.Subscript (.Name x p2) e pos) (fDGet i fk) :=
  PE.imp (pe_dget hu (pe_var hi hx hd hcd) hk hs) fun σ H Q ⟨Z0, H0, Hz, S, m, q⟩ => by
    unfold fDGet at q
    split at q
    · rename_i kvs e1
      obtain ⟨p, ws, ev, hp, hz, r⟩ := m.sl i _ e1
      refine ⟨.ref p, getD_some ev, Z0, H0, Hz, S, m, PR.bind q fun d q v Hz' H' st rv => ?_⟩
      split at q
      · rename_i kk hkk
        split at q
        · rename_i dv hdv
          obtain ⟨u, hu', ru⟩ := (r.val kk).2 dv hdv
          rw [keyK_rp hkk rv]
          exact ⟨p, u, rfl, by have := DGet.k (k := kk) (st.ex _ _ hp); rw [hu'] at this; exact this, q u Hz' H' st (ru.mono st.exz)⟩
        · exact q.elim
      · exact q.elim
    · rename_i kvs e1
      obtain ⟨p, ws, ev, hp, hz, r⟩ := m.sl i _ e1
      refine ⟨.ref p, getD_some ev, Z0, H0, Hz, S, m, PR.bind q fun d q v Hz' H' st rv => ?_⟩
      split at q
      · rename_i kk hkk
        split at q
        · rename_i dv hdv
          obtain ⟨u, hu', ru⟩ := (r.val kk).2 dv hdv
          obtain ⟨b, rfl, hb⟩ := keyT_rp hkk rv
          exact ⟨p, u, rfl, by have := DGet.t (k := kk) (st.ex _ _ hp) hb; rw [hu'] at this; exact this, q u Hz' H' st (ru.mono st.exz)⟩
        · exact q.elim
      · exact q.elim
    · exact q.elim
/-- is the key in the dict in slot i -/
def fDIn (i : Nat) (fk : Sg → Rs D) : Sg → Rs Bool := fun S => (fk S).bind fun d => match S[i]? with
  | some (.od kvs) => (match keyK d with
    | some k => .ok (valD kvs k).isSome
    | none => .no)
  | some (.ot kvs) => (match keyT d with
    | some k => .ok (valD kvs k).isSome
    | none => .no)
  | _ => .no
theorem din_core {K : PySem.W.Frag} {i : Nat} {fk : Sg → Rs D} {R : Bool → Hp → Prop} {σ : L2.St} {H : Hp} (h : tT K A W (fDIn i fk) σ H R) : tK K A W .rd fk σ H fun y H1 => tVar i σ H1 fun x H2 => ∃ a o, x = .ref a ∧ DGet H2 a y o ∧ R o.isSome H2 := by
  obtain ⟨Z0, H0, Hz, S, m, q⟩ := h
  refine ⟨Z0, H0, Hz, S, m, PR.bind q fun d q v Hz' H' st rv => ?_⟩
  split at q
  · rename_i kvs e1
    split at q
    · rename_i kk hkk
      obtain ⟨p, ws, ev, hp, hz, r⟩ := m.sl i _ e1
      refine ⟨.ref p, getD_some ev, p, valV ws kk, rfl, ?_, ?_⟩
      · rw [keyK_rp hkk rv]; exact DGet.k (st.ex _ _ hp)
      · rw [(r.val kk).1]; exact q Hz' H' st
    · exact q.elim
  · rename_i kvs e1
    split at q
    · rename_i kk hkk
      obtain ⟨p, ws, ev, hp, hz, r⟩ := m.sl i _ e1
      obtain ⟨b, rfl, hb⟩ := keyT_rp hkk rv
      refine ⟨.ref p, getD_some ev, p, valV ws kk, rfl, ?_, ?_⟩
      · exact DGet.t (st.ex _ _ hp) hb
      · rw [(r.val kk).1]; exact q Hz' H' st
    · exact q.elim
  · exact q.elim
theorem et_din {i : Nat} {x : Str} {p2 : Pos} {fk : Sg → Rs D} (hu : X.A.units + 1 < cLine) (hk : EK X A W .rd e fk) (hi : X.N[i]? = some x) (hx : Vis X.env.scope x) (hd : (x == ("__debug__" : Str)) = false := by decide) (hcd : (x == ("__classdict__" : Str)) = false := by decide) (h1 : behindInMarks .In (.Name x p2) = false := by rfl) : ET X A W (.Compare e [.In] [.Name x p2] pos) (fDIn i fk) :=
  PT.imp (pt_cmp (pc_din hu hk (pe_var hi hx hd hcd)) h1) fun σ H Q h => din_core (R := fun k H1 => ∃ c, V.bl k = .bl c ∧ Q c H1) (by
    obtain ⟨Z0, H0, Hz, S, m, q⟩ := h
    exact ⟨Z0, H0, Hz, S, m, q.imp fun b q Hz' H' st => ⟨b, rfl, q Hz' H' st⟩⟩)
theorem et_dnotin {i : Nat} {x : Str} {p2 : Pos} {fk : Sg → Rs D} (hu : X.A.units + 1 < cLine) (hk : EK X A W .rd e fk) (hi : X.N[i]? = some x) (hx : Vis X.env.scope x) (hd : (x == ("__debug__" : Str)) = false := by decide) (hcd : (x == ("__classdict__" : Str)) = false := by decide) (h1 : behindInMarks .NotIn (.Name x p2) = false := by rfl) : ET X A W (.Compare e [.NotIn] [.Name x p2] pos) (tN (fDIn i fk)) :=
  PT.imp (pt_cmp (pc_dnotin hu hk (pe_var hi hx hd hcd)) h1) fun σ H Q h => din_core (R := fun k H1 => ∃ c, V.bl (!k) = .bl c ∧ Q c H1) (by
    obtain ⟨Z0, H0, Hz, S, m, q⟩ := h
    exact ⟨Z0, H0, Hz, S, m, PR.bind q fun b q Hz' H' st => ⟨_, rfl, q Hz' H' st⟩⟩)
/-- len of the dict in slot i -/
def fDLen (i : Nat) : Sg → Rs D := fun S => match S[i]? with
  | some (.od kvs) => .ok (.int kvs.length)
  | some (.ot kvs) => .ok (.int kvs.length)
  | _ => .no
theorem call_lenDU : CallR X (.builtin "len") (fun xs H Q => (∃ d kvs, xs = [V.ref d] ∧ H d = some (.dK kvs) ∧ Q (.int kvs.length) H) ∨ ∃ (p : Addr) (kvs : List (List Key × V)), xs = [.ref p] ∧ H p = some (.dT kvs) ∧ Q (.int ((kvs.length : Nat) : Int)) H) := .or call_lenD call_len_dT
theorem et_dlen {i : Nat} {x : Str} {p p2 : Pos} (hg : Gl X "len") (hm : X.mg "len" = none) (hi : X.N[i]? = some x) (hx : Vis X.env.scope x) (hd : (x == ("__debug__" : Str)) = false := by decide) (hcd : (x == ("__classdict__" : Str)) = false := by decide)
    (he : starEach (.Name x p2 :: []) X.env = (false, eval (.Name x p2) X.env) :: starEach [] X.env := by rfl) (hpl : (backTo pos (starEach [] X.env)).any (·.1) = false := by rfl) : EK X A W .st (.Call (.Name "len" p) [.Name x p2] [] pos) (fDLen i) :=
  PE.imp (pe_callB call_lenDU hg hm PySem.boot_len (pa_cons (pe_var hi hx hd hcd) pa_nil he) (by decide) (by decide) he hpl) fun σ H Q ⟨Z0, H0, Hz, S, m, q⟩ => by
    unfold fDLen at q
    split at q
    · rename_i kvs e1
      obtain ⟨p, ws, ev, hp, hz, r⟩ := m.sl i _ e1
      exact ⟨.ref p, getD_some ev, .inl ⟨p, ws, rfl, hp, by rw [r.length]; exact q _ Hz H (.refl m.st.sub) (.int _)⟩⟩
    · rename_i kvs e1
      obtain ⟨p, ws, ev, hp, hz, r⟩ := m.sl i _ e1
      exact ⟨.ref p, getD_some ev, .inr ⟨p, ws, rfl, hp, by rw [r.length]; exact q _ Hz H (.refl m.st.sub) (.int _)⟩⟩
    · exact q.elim
/-- {} -/
theorem ex_dnewK : EX X A W (.Dict [] [] pos) (fun _ => .ok (.od [])) := PE.imp pe_dnewK fun σ H Q ⟨Z0, H0, Hz, S, m, q⟩ p hp =>
  q (.ref p) Hz _ (.own m.st.sub hp) ⟨p, [], rfl, upd_same, m.st.sub.none hp, .nil⟩ fun a w => by
    have w' : some (V.ref p) = some (.ref a) := w
    cases w'; exact hp
theorem ex_dnewT : EX X A W (.Dict [] [] pos) (fun _ => .ok (.ot [])) := PE.imp pe_dnewT fun σ H Q ⟨Z0, H0, Hz, S, m, q⟩ p hp =>
  q (.ref p) Hz _ (.own m.st.sub hp) ⟨p, [], rfl, upd_same, m.st.sub.none hp, .nil⟩ fun a w => by
    have w' : some (V.ref p) = some (.ref a) := w
    cases w'; exact hp
/-- d[k] = v -/
def sDPutF (i : Nat) (fk fv : Sg → Rs D) : Sg → Out := fun S => (fv S).thenO S fun v => match S[i]? with
  | some (.od kvs) => (fk S).thenO S fun d => (match keyK d with
    | some k => if kvs.length < LIM then .nx (S.set i (.od (putD kvs k v))) else .no
    | none => .no)
  | some (.ot kvs) => (fk S).thenO S fun d => (match keyT d with
    | some k => if kvs.length < LIM then .nx (S.set i (.ot (putD kvs k v))) else .no
    | none => .no)
  | _ => .no
theorem sx_dput {i : Nat} {x : Str} {ke : Expr} {p2 p3 : Pos} {fk fv : Sg → Rs D} (hu : X.A.units + 1 < cLine) (hi : X.N[i]? = some x) (hx : Vis X.env.scope x) (hk : EK X A W .rd ke fk) (hv : EK X A W .st e fv) (hs : swapsWith e (some (.Subscript (.Name x p2) ke p3)) pos.line X.env = pure false := by rfl)
    (hd : (x == ("__debug__" : Str)) = false := by decide) (hcd : (x == ("__classdict__" : Str)) = false := by decide) : SX X A W (.Assign [.Subscript (.Name x p2) ke p3] e pos) (sDPutF i fk fv) :=
  PS.imp (ps_dput hu (pe_var hi hx hd hcd) hk hv hs) fun Dn σ H ⟨Z0, H0, Hz, S, m, q⟩ => by
    refine ⟨Z0, H0, Hz, S, m, PO.bind m q fun v q u Hz1 H1 st1 ru => ?_⟩
    have m1 := m.stp st1
    split at q
    · rename_i kvs e1
      obtain ⟨p, ws, ev, hp, hz, r⟩ := m1.sl i _ e1
      refine ⟨.ref p, getD_some ev, Z0, H0, Hz1, S, m1, PO.bind m1 (q.ez st1.exz) fun d q y Hz2 H2 st2 ry => ?_⟩
      split at q
      · rename_i kk hkk
        split at q
        · rename_i hl
          have m2 := m1.stp st2
          obtain ⟨p', ws', ev', hp', hz', r'⟩ := m2.sl i _ e1
          rw [ev] at ev'; cases ev'
          rw [keyK_rp hkk ry]
          refine ⟨p, _, rfl, DPut.k (k := kk) hp' (lim' (by rw [r'.length]; omega)), q Hz2 _ σ st2.exz ?_⟩
          exact m2.mut e1 (a := p) ev ⟨p, _, ev, upd_same, hz', r'.put kk (ru.mono st2.exz)⟩ fun b w => .inl w
        · exact q.elim
      · exact q.elim
    · rename_i kvs e1
      obtain ⟨p, ws, ev, hp, hz, r⟩ := m1.sl i _ e1
      refine ⟨.ref p, getD_some ev, Z0, H0, Hz1, S, m1, PO.bind m1 (q.ez st1.exz) fun d q y Hz2 H2 st2 ry => ?_⟩
      split at q
      · rename_i kk hkk
        split at q
        · rename_i hl
          have m2 := m1.stp st2
          obtain ⟨p', ws', ev', hp', hz', r'⟩ := m2.sl i _ e1
          rw [ev] at ev'; cases ev'
          obtain ⟨b, rfl, hb⟩ := keyT_rp hkk ry
          refine ⟨p, _, rfl, DPut.t (k := kk) hp' hb (lim' (by rw [r'.length]; omega)), q Hz2 _ σ st2.exz ?_⟩
          exact m2.mut e1 (a := p) ev ⟨p, _, ev, upd_same, hz', r'.put kk (ru.mono st2.exz)⟩ fun b w => .inl w
        · exact q.elim
      · exact q.elim
    · exact q.elim

/-! ### list(range(n)), isinstance -/
theorem rgV_rp {K : PySem.W.Frag} {H : Hp} (n : Int) : RpAll K H (rgV 0 n) ((List.range n.toNat).map fun i : Nat => .int (i : Int)) := by
  have e1 : rgV 0 n = ((List.range n.toNat).map fun i : Nat => (i : Int)).map V.int := by
    unfold rgV
    rw [List.map_map]
    simp
  have e2 : ((List.range n.toNat).map fun i : Nat => (PyData.int (i : Int) : D)) = ((List.range n.toNat).map fun i : Nat => (i : Int)).map .int := by
    rw [List.map_map]; rfl
  rw [e1, e2]
  exact RpAll.ints _
def fListRg (f : Sg → Rs D) : Sg → Rs Sl := fun S => (f S).bind fun d => match d with
  | .int n => if -1000 ≤ n ∧ n ≤ LIM then .ok (.ow ((List.range n.toNat).map fun i : Nat => .int (i : Int))) else .no
  | _ => .no
theorem ex_listRg {p p2 q2 : Pos} {f : Sg → Rs D} (hc : X.calm = true) (hg : Gl X "list") (hm : X.mg "list" = none) (hg2 : Gl X "range") (hm2 : X.mg "range" = none) (he : EK X A W .rd e f) (na : starEach [e] X.env = (false, eval e X.env) :: starEach [] X.env := by rfl)
    (na2 : starEach [.Call (.Name "range" p2) [e] [] q2] X.env = (false, eval (.Call (.Name "range" p2) [e] [] q2) X.env) :: starEach [] X.env := by rfl) : EX X A W (.Call (.Name "list" p) [.Call (.Name "range" p2) [e] [] q2] [] pos) (fListRg f) :=
  PE.imp (pe_listRg hc hg hm (prg_1 hg2 hm2 he na) na2) fun σ H Q ⟨Z0, H0, Hz, S, m, q⟩ => by
    refine ⟨Z0, H0, Hz, S, m, PR.bind q fun d q v Hz' H' st rv => ?_⟩
    split at q
    · rename_i n
      split at q
      · rename_i hn
        have hn2 : n ≤ 10000 := hn.2
        refine ⟨n, Rp.int_inv rv, ⟨by omega, by omega, by omega, by omega, by omega⟩, fun l hl => pv_ow st.sub (PV.stp q st) hl (rgV_rp n)⟩
      · exact q.elim
    · exact q.elim
/-- kinds by number: 0 None, 1 bool, 2 int, 3 str, 4 list, 5 tuple -/
def tyS : Nat → String
  | 0 => "NoneType"
  | 1 => "bool"
  | 2 => "int"
  | 3 => "str"
  | 4 => "list"
  | _ => "tuple"
def tyD : D → Option Nat
  | .none => some 0
  | .bool _ => some 1
  | .int _ => some 2
  | .str _ => some 3
  | .list _ => some 4
  | .tuple _ => some 5
  | .dict _ => none
theorem tyD_ok {K : PySem.W.Frag} {H : Hp} {v : V} {d : D} {t : Nat} (h : tyD d = some t) (r : Rp K H v d) : TyX K H v (.type (tyS t)) := by
  cases r with
  | non => cases h; exact .base .non
  | bl b => cases h; exact .base (.bl b)
  | int i => cases h; exact .base (.int i)
  | str x => cases h; exact .base (.str x)
  | lst h' _ => cases h; exact .base (.lst h')
  | tup h' _ => cases h; exact .base (.tup h')
  | scr _ => cases h
def isIn (t c : Nat) : Bool := t == c || (t == 1 && c == 2)
def fIsI (c : Nat) (f : Sg → Rs D) : Sg → Rs Sl := fun S => (f S).bind fun d => match tyD d with
  | some t => okB (isIn t c)
  | none => .no
theorem kit_all (K : PySem.W.Frag) {t c : Nat} (ht : t ∈ [0, 1, 2, 3, 4, 5]) (hc : c ∈ [1, 2, 3, 4, 5]) : PySem.W.kitOne K (.type (tyS t)) (.type (tyS c)) = some (isIn t c) := by
  refine kit_ty ?_
  simp only [List.mem_cons, List.not_mem_nil, or_false] at ht hc
  rcases ht with rfl | rfl | rfl | rfl | rfl | rfl <;> rcases hc with rfl | rfl | rfl | rfl | rfl <;> decide +kernel
theorem tyD_mem {d : D} {t : Nat} (h : tyD d = some t) : t ∈ [0, 1, 2, 3, 4, 5] := by
  cases d <;> cases h <;> simp
/-- isinstance(e, C), C a built-in class by its name -/
theorem ex_isi {c : Nat} {cx : Str} {p p2 : Pos} {f : Sg → Rs D} (hg : Gl X "isinstance") (hm : X.mg "isinstance" = none) (hg2 : Gl X cx) (hm2 : X.mg cx = none) (hv : bootBuiltins cx = some (.type (tyS c))) (hc : c ∈ [1, 2, 3, 4, 5]) (he : EK X A W k e f) (hn : cx ≠ "__name__" := by decide) (hdb : (cx == ("__debug__" : Str)) = false := by decide)
    (hs : starEach [e, .Name cx p2] X.env = (false, eval e X.env) :: starEach [.Name cx p2] X.env := by rfl) (hs2 : starEach [.Name cx p2] X.env = (false, eval (.Name cx p2) X.env) :: starEach [] X.env := by rfl) (hpl : (backTo pos (starEach [.Name cx p2] X.env)).any (·.1) = false := by rfl) :
    EX X A W (.Call (.Name "isinstance" p) [e, .Name cx p2] [] pos) (fIsI c f) :=
  PE.imp (pe_callB call_isi hg hm boot_isinstance (pa_cons he (pa_cons (pe_bltn (v := .ty (tyS c)) hg2 hm2 hv rfl hn hdb) pa_nil hs2) hs) (by decide) (by decide) hs hpl) fun σ H Q ⟨Z0, H0, Hz, S, m, q⟩ => by
    refine ⟨Z0, H0, Hz, S, m, PR.bind q fun d q v Hz' H' st rv => ?_⟩
    split at q
    · rename_i t ht
      exact ⟨v, .ty (tyS c), _, _, isIn t c, rfl, .ty (tyS c), tyD_ok ht (Kd.read rv st.sub), kit_all _ (tyD_mem ht) hc, pv_bl st.sub (PV.stp q st)⟩
    · exact q.elim

/-! ### the same in short -/
section
variable {pos : Pos}
theorem v_rd (i : Nat) {x : Str} (hN : X.N[i]? = some x := by rfl) (hv : Vis X.env.scope x := by first | exact Or.inl rfl | exact Or.inr (Or.inl rfl) | exact Or.inr (Or.inr rfl)) (hd : (x == ("__debug__" : Str)) = false := by decide) (hcd : (x == ("__classdict__" : Str)) = false := by decide) : EK X A W .rd (.Name x pos) (rVar i) := rd_var hN hv hd hcd
theorem v_cn (i : Nat) {x : Str} (hN : X.N[i]? = some x := by rfl) (hv : Vis X.env.scope x := by first | exact Or.inl rfl | exact Or.inr (Or.inl rfl) | exact Or.inr (Or.inr rfl)) (hd : (x == ("__debug__" : Str)) = false := by decide) (hcd : (x == ("__classdict__" : Str)) = false := by decide) : EK X A W .cn (.Name x pos) (lVar i) := cn_var hN hv hd hcd
theorem v_st (i : Nat) {x : Str} (hN : X.N[i]? = some x := by rfl) (hv : Vis X.env.scope x := by first | exact Or.inl rfl | exact Or.inr (Or.inl rfl) | exact Or.inr (Or.inr rfl)) (hd : (x == ("__debug__" : Str)) = false := by decide) (hcd : (x == ("__classdict__" : Str)) = false := by decide) : EK X A W .st (.Name x pos) (sVar i) := st_var hN hv hd hcd
end
/-- the def of name x stands, and keeps F -/
structure Cal (P : Program) (w : World) (K : PySem.W.Frag) (mg : Str → Option Value) (base : Heap) (A : Nat → Addr) (k : Nat) (x : Str) (ps : List Str) (F : List D → Rs Sl) : Prop where
  ex : ∃ f fd, FnOk P w K mg base (L2.CX P w) k f fd ps (spF K A F) ∧ mg x = some (.ref f) ∧ PySem.W.keepIn K (.ref f) = true ∧ Binds K fd ps []
/-- the def of name x stands as st -/
structure Df (K : PySem.W.Frag) (mg : Str → Option Value) (x : Str) (st : Stmt) : Prop where
  ex : ∃ f fd, Fun K x x st f fd ∧ mg x = some (.ref f)
theorem df_cal {P : Program} {w : World} {K : PySem.W.Frag} {mg : Str → Option Value} {base : Heap} {x : Str} {st : Stmt} {N ps : List Str} {k : Nat} {g : List D → Sg → Out} (d : Df K mg x st) (S : FnScope N ps (defScope st))
    (hbind : ∀ (kV doc pm : Value) (an : Option Addr) (cdv ct : Value) (us : List Value), us.length = ps.length → bindArgs (PySem.W.fnOf x x (defArgs st) (defBody st) (defScope st) .none kV doc pm an cdv ct) ⟨us, []⟩ = pure (ps.zip us))
    (hb : ∀ (f : Addr) (cdv : Value) (A0 : Around) (outer : List Env) (s : Shared) (H : Hp) (E : XK) (ds : List D), Room k (A0.deeper (envOfC x (defScope st) s.heap.objs.size f cdv)) →
      SB (cxOf (L2.CX P w) P w K mg base N x (defScope st) f cdv A0 outer s H E) A (fun c d _ H => E c d H) (defBody st) (g ds)) : Cal P w K mg base A (k + 1) x ps (fnF N.length ps.length g) := by
  obtain ⟨f, fd, F, hm⟩ := d.ex
  exact ⟨f, fd, fn_okF F S (fun cdv A0 outer s H E ds hr => hb f cdv A0 outer s H E ds hr), hm, F.kp, F.binds hbind⟩
theorem c_call {kk : Nat} {ps : List Str} {F : List D → Rs Sl} {x : Str} {p : Pos} {fa : Sg → Rs (List D)} (c : Cal X.prog X.w X.K X.mg X.base A kk x ps F) (hr : Room kk X.A) (tk : Takes X W) (ha : EA X A W .st (e :: es) fa)
    (hg : Gl X x := by rfl) (hd : (x == ("__debug__" : Str)) = false := by decide) (he : starEach (e :: es) X.env = (false, eval e X.env) :: starEach es X.env := by rfl) (hpl : (backTo pos (starEach es X.env)).any (·.1) = false := by rfl) :
    EX X A W (.Call (.Name x p) (e :: es) [] pos) (fApp F fa) := by
  obtain ⟨f, fd, G, hm, hk, hb⟩ := c.ex
  exact ex_call G hr hg hm hk hb (fun σ => passAt tk σ) ha hd he hpl
theorem c_callR {kk : Nat} {ps : List Str} {F : List D → Rs Sl} {x : Str} {p : Pos} {fa : Sg → Rs (List D)} (c : Cal X.prog X.w X.K X.mg X.base A kk x ps F) (hr : Room kk X.A) (tk : Takes X W) (ha : EA X A W .rd (e :: es) fa)
    (hg : Gl X x := by rfl) (hd : (x == ("__debug__" : Str)) = false := by decide) (he : starEach (e :: es) X.env = (false, eval e X.env) :: starEach es X.env := by rfl) (hpl : (backTo pos (starEach es X.env)).any (·.1) = false := by rfl) :
    EX X A W (.Call (.Name x p) (e :: es) [] pos) (fAppR F fa) := by
  obtain ⟨f, fd, G, hm, hk, hb⟩ := c.ex
  exact ex_callR G hr hg hm hk hb (fun σ => passAt tk σ) ha hd he hpl
/-- the law: over every script of at most n numbers it is True -/
def spLaw (K : PySem.W.Frag) (n : Nat) : Sp := fun vs H Q _ => ∃ (a : Addr) (ns : List Int), vs = [.ref a] ∧ SqL K H a (ns.map V.int) ∧ ns.length ≤ n ∧ ∀ H', Q (.bl true) H'
theorem law_of {P : Program} {w : World} {K : PySem.W.Frag} {mg : Str → Option Value} {base : Heap} {CX : CXT} {k n : Nat} {f : Addr} {fd : FuncData} {ps : List Str} {F : List D → Rs Sl} (G : FnOk P w K mg base CX k f fd ps (spF K A F)) (h : ∀ ns : List Int, ns.length ≤ n → F [scrD ns] = okB true) : FnOk P w K mg base CX k f fd ps (spLaw K n) :=
  G.imp fun vs H Q E ⟨a, ns, ev, hs, hl, q⟩ => by
    subst ev
    refine ⟨H, [scrD ns], .refl _, .cons (.scr hs) .nil, ?_⟩
    rw [h ns hl]
    intro v Hz' H' st sr _
    obtain ⟨v', e, r⟩ := sr
    cases e
    cases r
    exact q H'
end
end Sh

/-! ## Part H: methods of lists, setdefault in a test, slices that are read now -/
namespace Sh
open PySem PySem.Spec PyProof.Rows L2

section
variable {X : Cx} {A : Nat → Addr} {W : WX} {a b c e : Expr} {es : List Expr} {k k1 k2 k3 : Kd} {pos : Pos} {fa fb : Sg → Rs D}
def fMth (g : List D → D → Rs Sl) (fa fb : Sg → Rs D) : Sg → Rs Sl := fun S => (fa S).bind fun x => match x with
  | .list ds => (fb S).bind fun y => g ds y
  | _ => .no
def o_index (ds : List D) (d : D) : Rs Sl := if SeqAt.shaped (.list ds) = true ∧ SeqAt.shaped d = true then (match ds.findIdx? fun z => PyData.eqv z d with
  | some j => okI j
  | none => .no) else .no
def o_count (ds : List D) (d : D) : Rs Sl := match d with
  | .int k => (match ints? ds with
    | some ns => okI ((ns.count k : Nat) : Int)
    | none => .no)
  | _ => .no
theorem ex_m_index {apos cpos : Pos} (hu : X.A.units + 65 < cLine) (ha : EK X A W .rd a fa) (hb : EK X A W .rd b fb)
    (hbase : attributeBase a "index" X.env (eval a X.env) = eval a X.env := by rfl)
    (hfew : ((backTo cpos (starEach [b] X.env)).all (fun x => !x.1) && (backToKw cpos (keywordEach [] X.env)).all (fun x => x.1.isSome)
      && decide ([b].length + ([] : List Keyword).length + (if ([] : List Keyword).isEmpty then 0 else 1) < 30)) = true := by rfl)
    (hline : (apos.endLine == cpos.line) = true := by rfl) (hs : starEach [b] X.env = (false, eval b X.env) :: starEach [] X.env := by rfl) (hplain : (backTo cpos (starEach [] X.env)).any (·.1) = false := by rfl) :
    EX X A W (.Call (.Attribute a "index" apos) [b] [] cpos) (fMth o_index fa fb) :=
  PE.imp (pe_bm PySem.F.plainAttrs_list PySem.F.slot_list_index PySem.F.type_list_index (mt_indexD hu) ha (pa_cons hb pa_nil hs) hbase hfew hline hs hplain) fun σ H Q ⟨Z0, H0, Hz, S, m, q⟩ => by
    refine ⟨Z0, H0, Hz, S, m, PR.bind q fun d q v Hz1 H1 st1 r1 => ?_⟩
    split at q
    · rename_i ds
      obtain ⟨p, xs, rfl, hp, rp⟩ := Rp.lst_inv (show Rp X.K H1 v (.list ds) from r1)
      refine ⟨.inl ⟨rfl, xs, SqL.of hp⟩, Z0, H0, Hz1, S, m.stp st1, PR.bind (q.stp st1 fun _ q => PV.stp q st1) fun d2 q v2 Hz2 H2 st2 r2 => ?_⟩
      have q2 := q.stp st2 fun _ q => PV.stp q st2
      have r1' : Rp X.K H2 (.ref p) (.list ds) := Kd.stp (k := .rd) r1 st2
      have r2' : Rp X.K H2 v2 d2 := r2
      unfold o_index at q2
      split at q2
      · rename_i hc
        split at q2
        · rename_i j hj
          obtain ⟨hlt, h1, h2⟩ := List.findIdx?_eq_some_iff_getElem.mp hj
          exact ⟨p, v2, d2, ds, j, ds[j], rfl, rfl, Rp.dp r1' (SeqAt.canLay_of_shaped hc.1), Rp.dp r2' (SeqAt.canLay_of_shaped hc.2), hc.1, hc.2, List.getElem?_eq_getElem hlt, h1, fun m z' hm hz => by
            have hml : m < ds.length := Nat.lt_trans hm hlt
            rw [List.getElem?_eq_getElem hml] at hz
            cases hz
            simpa using h2 m hm, pv_int st2.sub q2⟩
        · exact q2.elim
      · exact q2.elim
    · exact q.elim
theorem ex_m_count {apos cpos : Pos} (ha : EK X A W .rd a fa) (hb : EK X A W .rd b fb)
    (hbase : attributeBase a "count" X.env (eval a X.env) = eval a X.env := by rfl)
    (hfew : ((backTo cpos (starEach [b] X.env)).all (fun x => !x.1) && (backToKw cpos (keywordEach [] X.env)).all (fun x => x.1.isSome)
      && decide ([b].length + ([] : List Keyword).length + (if ([] : List Keyword).isEmpty then 0 else 1) < 30)) = true := by rfl)
    (hline : (apos.endLine == cpos.line) = true := by rfl) (hs : starEach [b] X.env = (false, eval b X.env) :: starEach [] X.env := by rfl) (hplain : (backTo cpos (starEach [] X.env)).any (·.1) = false := by rfl) :
    EX X A W (.Call (.Attribute a "count" apos) [b] [] cpos) (fMth o_count fa fb) :=
  PE.imp (pe_bm PySem.F.plainAttrs_list PySem.F.slot_list_count PySem.F.type_list_count mt_lcount ha (pa_cons hb pa_nil hs) hbase hfew hline hs hplain) fun σ H Q ⟨Z0, H0, Hz, S, m, q⟩ => by
    refine ⟨Z0, H0, Hz, S, m, PR.bind q fun d q v Hz1 H1 st1 r1 => ?_⟩
    split at q
    · rename_i ds
      obtain ⟨p, xs, rfl, hp, rp⟩ := Rp.lst_inv (show Rp X.K H1 v (.list ds) from r1)
      refine ⟨.inl ⟨rfl, xs, SqL.of hp⟩, Z0, H0, Hz1, S, m.stp st1, PR.bind (q.stp st1 fun _ q => PV.stp q st1) fun d2 q v2 Hz2 H2 st2 r2 => ?_⟩
      have q2 := q.stp st2 fun _ q => PV.stp q st2
      have r1' : Rp X.K H2 (.ref p) (.list ds) := Kd.stp (k := .rd) r1 st2
      have r2' : Rp X.K H2 v2 d2 := r2
      unfold o_count at q2
      split at q2
      · rename_i kk
        split at q2
        · rename_i ns hn
          have := ints_eq hn
          subst this
          obtain ⟨p', xs', e', hp', rp'⟩ := Rp.lst_inv r1'
          cases e'
          have := rp'.ints_inv
          subst this
          have := Rp.int_inv r2'
          subst this
          exact ⟨p, ns, kk, rfl, rfl, SqL.of hp', pv_int st2.sub q2⟩
        · exact q2.elim
      · exact q2.elim
    · exact q.elim

/-! ### if d.setdefault(k, v) != c -/
def setdTail (fc : Sg → Rs D) (g : Sg → Out) (w : D) (S : Sg) : Out := (fc S).thenO S fun c => (oNe w c).tb.thenO S fun b => if b = true then g S else .nx S
def sIfSetd (i : Nat) (fk fv fc : Sg → Rs D) (g : Sg → Out) : Sg → Out := fun S => match S[i]? with
  | some (.od kvs) => (fk S).thenO S fun kd => match keyK kd with
    | some k => (fv S).thenO S fun v => if kvs.length < LIM then (match valD kvs k with
        | some w => setdTail fc g w S
        | none => setdTail fc g v (S.set i (.od (putD kvs k v)))) else .no
    | none => .no
  | _ => .no
theorem setd_core {Z0 H0 Hz H : Hp} {S : Sg} {σ : L2.St} {fc : Sg → Rs D} {g : Sg → Out} {v : V} {w : D} {Dn : Ends} (m : Mt X.K Z0 H0 Hz H S σ) (rv : Rp X.K Hz v w) (q : PO X.K A W Z0 H0 Hz Dn (setdTail fc g w S)) :
    tK X.K A W .rd fc σ H fun y H2 => rNeD X.K v y H2 fun x H' => ∃ k, x = .bl k ∧ (if k = true then tS X.K A W g Dn σ H' else tS X.K A W sNext Dn σ H') := by
  unfold setdTail at q
  refine ⟨Z0, H0, Hz, S, m, PO.bind m q fun d q y Hz2 H2 st2 ry => ?_⟩
  have m2 := m.stp st2
  have rv2 : Rp X.K H2 v w := (rv.mono st2.exz).mono st2.sub
  have q2 : PO X.K A W Z0 H0 Hz2 Dn _ := q.ez st2.exz
  cases hg : oNe w d with
  | ex c => exact (n_ne _ _ c hg).elim
  | no => rw [hg] at q2; exact q2.elim
  | ok s =>
    rw [hg] at q2
    refine k_ne Hz2 H2 v y w d _ st2.sub rv2 ry ?_
    rw [hg]
    intro x Hz3 H3 st3 sr fr
    unfold Rs.tb at q2
    rw [Rs.bind_ok] at q2
    split at q2
    · rename_i b
      obtain ⟨x', e, rx⟩ := sr
      cases e
      cases rx
      refine ⟨b, rfl, ?_⟩
      have q3 := q2.ez st3.exz
      cases b with
      | true => exact ⟨Z0, H0, Hz3, S, m2.stp st3, q3⟩
      | false => exact ⟨Z0, H0, Hz3, S, m2.stp st3, q3⟩
    · exact q2.elim
theorem sx_ifSetd {i : Nat} {x : Str} {ke ve : Expr} {p : List Stmt} {p2 apos cpos p5 : Pos} {fk fv fc : Sg → Rs D} {g : Sg → Out} (hu : X.A.units + 64 < cLine) (hi : X.N[i]? = some x) (hx : Vis X.env.scope x) (hk : EK X A W .rd ke fk) (hv : EK X A W .st ve fv) (hc : EK X A W .rd c fc) (hp : SB X A W p g)
    (M : M2 X (.Name x p2) "setdefault" apos ke ve cpos) (hd : (x == ("__debug__" : Str)) = false := by decide) (hcd : (x == ("__classdict__" : Str)) = false := by decide) (hm : behindInMarks .NotEq c = false := by exact nomark _) :
    SX X A W (.If (.Compare (.Call (.Attribute (.Name x p2) "setdefault" apos) [ke, ve] [] cpos) [.NotEq] [c] p5) p [] pos) (sIfSetd i fk fv fc g) :=
  PS.imp (ps_if (pt_cmpR (op_neD hu) (pe_dsetd (pe_var hi hx hd hcd) hk hv M) hc hm) hp sb_nil) fun Dn σ H ⟨Z0, H0, Hz, S, m, q⟩ => by
    unfold sIfSetd at q
    split at q
    · rename_i kvs e1
      obtain ⟨pa, ws, ev, hpa, hz, r⟩ := m.sl i _ e1
      refine ⟨.ref pa, getD_some ev, pa, rfl, .inl ⟨_, .inl hpa⟩, Z0, H0, Hz, S, m, PO.bind m q fun kd q y Hz1 H1 st1 ry => ?_⟩
      have m1 := m.stp st1
      split at q
      · rename_i kk hkk
        refine ⟨Z0, H0, Hz1, S, m1, PO.bind m1 (q.ez st1.exz) fun d q z Hz2 H2 st2 rz => ?_⟩
        split at q
        · rename_i hl
          have m2 := m1.stp st2
          obtain ⟨p', ws', ev', hp', hz', r'⟩ := m2.sl i _ e1
          rw [ev] at ev'; cases ev'
          refine ⟨ws', kk, hp', keyK_rp hkk ry, lim' (by rw [r'.length]; omega), fun u hu => ?_, fun hu => ?_⟩
          · cases hv : valD kvs kk with
            | none => have := (r'.val kk).1; rw [hu, hv] at this; cases this
            | some w =>
              obtain ⟨u', hu', ru⟩ := (r'.val kk).2 w hv
              rw [hu] at hu'; cases hu'
              rw [hv] at q
              exact setd_core m2 ru (q.ez st2.exz)
          · cases hv : valD kvs kk with
            | some w => have := (r'.val kk).1; rw [hu, hv] at this; cases this
            | none =>
              rw [hv] at q
              refine setd_core ?_ rz (q.ez st2.exz)
              exact m2.mut e1 (a := pa) ev ⟨pa, _, ev, upd_same, hz', r'.put kk rz⟩ fun b w => .inl w
        · exact q.elim
      · exact q.elim
    · exact q.elim

/-! ### a slice that is read now -/
def fSlR (f : Sg → Rs D) (l h : Sg → Rs (Option Int)) : Sg → Rs D := fun S => (f S).bind fun d => match d with
  | .list ds => (l S).bind fun lo => (h S).bind fun hi => .ok (.list (cutL ds lo hi))
  | _ => .no
theorem er_slice {lo hi : Option Expr} {p2} {f : Sg → Rs D} {fl fh : Sg → Rs (Option Int)} (h : EK X A W .rd e f) (hl : EO X A W lo fl) (hh : EO X A W hi fh) : EK X A W .rd (.Subscript e (.Slice lo hi none p2) pos) (fSlR f fl fh) :=
  PE.imp (pe_slice sl_list h hl hh) fun σ H Q ⟨Z0, H0, Hz, S, m, q⟩ => by
    refine ⟨Z0, H0, Hz, S, m, PR.bind q fun d q v Hz1 H1 st1 r1 => ?_⟩
    split at q
    · rename_i ds
      refine ⟨Z0, H0, Hz1, S, m.stp st1, PR.bind (q.stp st1 fun _ q => PK.stp q st1) fun lo q Hz2 H2 st2 => ?_⟩
      refine ⟨Z0, H0, Hz2, S, (m.stp st1).stp st2, PR.bind (q.stp st2 fun _ q => PK.stp q st2) fun hi q Hz3 H3 st3 => ?_⟩
      have q3 := PK.stp q st3
      have r3 : Rp X.K H3 v (.list ds) := Kd.stp (k := .rd) (Kd.stp (k := .rd) r1 st2) st3
      obtain ⟨p, xs, rfl, hp, rp⟩ := Rp.lst_inv r3
      refine ⟨p, xs, rfl, SqL.of hp, fun l hl => ?_⟩
      have s := Stp.own (o := .lst (cutV xs lo hi)) st3.sub hl
      have h0 : RpAll X.K H3 (cutV xs lo hi) (cutL ds lo hi) := by
        unfold cutV cutL
        rw [rp.length]
        exact (rp.drop _).take _
      exact q3 (.ref l) Hz3 _ s (.lst upd_same (h0.mono s.ex))
    · exact q.elim
end
end Sh

/-! ## Part I: list(reversed(x)) -/
namespace Sh
open PySem PySem.Spec PyProof.Rows L2

section
variable {prog : Program} {w : World} {A : Around} {E : Value → Shared → Prop} {s : Shared}
theorem call_list_rev {it l : Addr} {items : Array Value} {Q : Value → Shared → Prop} (hh : A.handled = none) (hit : s.heap.IsRevIter it l ((items.size : Int) - 1)) (hl : s.heap.IsList l items) (hne : l ≠ it) (hn : items.size ≤ sizeLine)
    (hQ : ∀ (h' : Heap) (tk : Nat) (acc : Array Value) (c' : Nat), (∀ b o, b ≠ it → s.heap.get? b = some o → h'.get? b = some o) → h'.get? s.heap.objs.size = some { cls := .type "list", dict := none, data := .seq acc c', slots := #[] } → ItemsOf (fun i v => items[items.size - 1 - i]? = some v) acc items.size →
      Q (.ref s.heap.objs.size) { s with heap := h', toks := tk }) :
    wpAny (model prog w) A (call (.type "list") [.ref it]) Q E s := by
  have W := (Walks.listRev (prog := prog) (w := w) (A := A.in1.in1) hh it l hne items).toS
  obtain ⟨oi, hoi, _⟩ := id hit
  obtain ⟨ol, hol, _⟩ := id hl
  have hSi : s.heap.objs.size ≠ it := Nat.ne_of_gt (Heap.lt_size hoi)
  have hSl : s.heap.objs.size ≠ l := Nat.ne_of_gt (Heap.lt_size hol)
  have hSf : s.heap.objs.size ∉ [it, l] := by simp only [List.mem_cons, List.not_mem_nil, or_false, not_or]; exact ⟨hSi, hSl⟩
  refine callType_codes (Q₁ := fun obj s₁ => obj = .ref s.heap.objs.size ∧ s₁ = { s with heap := s.heap.push { cls := .type "list", data := .seq #[] } }) PySem.F.called_list (PySem.F.typeCall_list_1 _) PySem.F.entry_list_init
    (code_list_new _ ⟨rfl, rfl⟩) fun obj s₁ h₁ => ?_
  obtain ⟨rfl, rfl⟩ := h₁
  have hS : (s.heap.push { cls := .type "list", data := .seq #[] }).get? s.heap.objs.size = some { cls := .type "list", data := .seq #[] } := Heap.get?_push_size _ rfl
  refine ⟨⟨_, hS, rfl⟩, PySem.F.args_list_init_2 _ _, ?_⟩
  show wpAny _ A.in1.in1 (do let old ← Builtin.List.listItems (.ref s.heap.objs.size); Builtin.List.listUpdate (.ref s.heap.objs.size) (fun _ => #[]); letGo old.toList.reverse; Builtin.List.listExtendWith (.ref s.heap.objs.size) (.ref it) .none) _ _ _
  refine wpAny_bind ?_
  unfold Builtin.List.listItems
  refine wpAny_bind (wpAny_seqItems hS rfl (wpAny_pure ?_))
  show wpAny _ A.in1.in1 (updateSeq s.heap.objs.size (fun _ => #[]) >>= fun _ => letGo (#[] : Array Value).toList.reverse >>= fun _ => Builtin.List.listExtendWith (.ref s.heap.objs.size) (.ref it) .none) _ _ _
  refine wpAny_bind (wpAny_updateSeq hS rfl ?_)
  have hS₂ := Heap.get?_update_self (Obj.mapSeq (fun _ => (#[] : Array Value))) hS rfl
  have oth : ∀ b o, b ≠ s.heap.objs.size → s.heap.get? b = some o → ((s.heap.push { cls := .type "list", data := .seq #[] }).update s.heap.objs.size (Obj.mapSeq (fun _ => (#[] : Array Value)))).get? b = some o :=
    fun b o hb e => (Heap.get?_update_other _ _ (Ne.symm hb)).trans (Heap.get?_push_of_some _ e)
  refine wpAny_bind (wpAny_letGo ?_)
  generalize ((s.heap.push { cls := .type "list", data := .seq #[] }).update s.heap.objs.size (Obj.mapSeq (fun _ => (#[] : Array Value)))) = h2 at hS₂ oth ⊢
  have hit1 : h2.IsRevIter it l ((items.size : Int) - 1) := hit.at fun o e => oth it o hSi.symm e
  have hl1 : h2.IsList l items := hl.at fun o e => oth l o hSl.symm e
  have hT : ({ s with heap := h2 } : Shared).TypeIs (.ref it) "list_reverseiterator" := Heap.IsRevIter.typeIs (s := { s with heap := h2 }) hit1
  have h1 : Builtin.List.listSameRef (.ref s.heap.objs.size) (.ref it) = false := by simp [Builtin.List.listSameRef, hSi]
  unfold Builtin.List.listExtendWith
  refine wpAny_bind (wpAny_typeOf hT ?_)
  rw [if_neg (by rw [h1]; decide)]
  refine wpAny_bind (wpAny_pyIter_revIter (s := { s with heap := h2 }) hit1 ?_)
  refine wpAny_bind (wpAny_holding ?_)
  unfold Builtin.List.listLengthHint
  refine wpAny_bind (wpAny_specialOf hT RT.nolen_lri ?_)
  show wpAny _ A.in1.in1 (specialOf (Value.ref it) (Str.ofString "__length_hint__") >>= _) _ _ _
  refine wpAny_bind (wpAny_specialOf hT RT.hint_lri ?_)
  generalize hid : ("list_reverseiterator.__length_hint__" : String) = id0
  wp_delta
  rw [show splitId id0 = some ("list_reverseiterator", "__length_hint__") from by subst hid; decide +kernel]
  subst hid
  refine wpAny_bind (wpAny_isInstance (b := true) hT (by rw [isSubtype_type]; kernel_rfl) ?_)
  refine wpAny_pure ?_
  rw [if_neg (by decide)]
  have e0 : ((items.size : Nat) : Int) - 1 - ((0 : Nat) : Int) = (items.size : Int) - 1 := by omega
  refine wpAny_pure ⟨plainId_quiet PySem.F.plain_extend_loop _, codeAny_extend_loopS W hn _ hSf _ items.size 0 _ _ _ rfl (Nat.zero_le _) ⟨Nat.zero_le _, by rw [e0]; exact hit1, hl1⟩ hS₂ (ItemsOf.nil _) fun s' acc' c' hm hS' hacc => ?_⟩
  refine ⟨rfl, ?_⟩
  rw [Moved.eq_with hm]
  refine hQ s'.heap s'.toks acc' c' (fun b o hb e => ?_) hS' hacc
  by_cases hbS : b = s.heap.objs.size
  · exact absurd (Heap.lt_size e) (by rw [hbS]; exact Nat.lt_irrefl _)
  · refine hm.heap b o (fun hmem => ?_) (oth b o hbS e)
    rcases List.mem_cons.mp hmem with e' | hmem
    · exact hbS e'
    · exact hb (List.mem_singleton.mp hmem)
end
def tLstRev (K : PySem.W.Frag) (te : TE) : TE := fun σ H Q => te σ H fun v H1 => ∃ (a : Addr) (xs : List V), v = .ref a ∧ SqL K H1 a xs ∧ ∀ q, H1 q = none → Q (.ref q) (upd H1 q (.lst xs.reverse))
section
variable {X : Cx}
theorem pe_listRev {e : Expr} {te : TE} {p p2 pos pos2 : Pos} (hc : X.calm = true) (hg : Gl X "list") (hm : X.mg "list" = none) (hg2 : Gl X "reversed") (hm2 : X.mg "reversed" = none) (he : PE X e te)
    (hs : starEach [e] X.env = (false, eval e X.env) :: starEach [] X.env := by rfl)
    (hs2 : starEach [.Call (.Name "reversed" p2) [e] [] pos2] X.env = (false, eval (.Call (.Name "reversed" p2) [e] [] pos2) X.env) :: starEach [] X.env := by rfl) :
    PE X (.Call (.Name "list" p) [.Call (.Name "reversed" p2) [e] [] pos2] [] pos) (tLstRev X.K te) := by
  refine ⟨fun pins s σ H Q I h => ?_⟩
  refine Call_ (ld_blt I hg hm boot_list (PyProof.Rows.callWith_type1 (args_cons (Call_ (ld_blt I hg2 hm2 PyProof.Rows.boot_reversed (PyProof.Rows.callWith_type1 (args_cons (thn (he.run pins s σ H _ I h) fun u s1 ⟨v, H1, I1, r1, q1⟩ => args_nil ?_) hs) hs rfl))) hs2) hs2 rfl))
  obtain ⟨a, xs, ev, hq, q⟩ := q1
  subst ev
  obtain rfl : u = Value.ref a := r1
  obtain ⟨its, rv, p', hz⟩ := I1.list hq
  refine call_reversed_list p'.isList (args_nil ?_)
  have k0 : ∀ b o, s1.heap.get? b = some o → (s1.heap.push (revObj a ((its.toArray.size : Int) - 1))).get? b = some o := fun b o e => Heap.get?_push_of_some _ e
  have I2 : Inv X pins σ H1 { s1 with heap := s1.heap.push (revObj a ((its.toArray.size : Int) - 1)) } := I1.kept (t' := s1.toks) k0
  have hl := p'.isList
  obtain ⟨ol, hol, _⟩ := id hl
  have hne : a ≠ s1.heap.objs.size := Nat.ne_of_lt (Heap.lt_size hol)
  have hn : its.toArray.size ≤ sizeLine := by rw [List.size_toArray, ← rv.length]; exact hz
  refine call_list_rev (s := { s1 with heap := s1.heap.push (revObj a ((its.toArray.size : Int) - 1)) }) (I1.ok.hd hc) ⟨_, Heap.get?_push_size _ rfl, rfl, rfl⟩ (hl.push _) hne hn fun h' tk acc c' hk hS hi => ?_
  have I3 := I2.turnedNew (t' := tk) (ch := [s1.heap.objs.size]) (T := (s1.heap.push (revObj a ((its.toArray.size : Int) - 1))).objs.size) (ob := .lst xs.reverse) (fun b o hb e => hk b o (by simpa using hb) e) (fun b hb => by
    have e : b = s1.heap.objs.size := by simpa using hb
    subst e
    exact I1.fpOk (H' := H1) (b := s1.heap.objs.size) (Nat.le_refl _) (I1.hok.fresh (Nat.le_refl _))) (Nat.le_refl _) (show ObjOk X.prog X.w _ _ _ (.lst xs.reverse) from ⟨by rw [List.length_reverse]; exact hz, acc.toList, c', RT.vals_rev rv hi, by rw [Array.toArray_toList]; exact hS⟩)
  exact ⟨.ref _, _, I3, rfl, q _ (I2.hok.fresh (Nat.le_refl _))⟩
end
section
variable {X : Cx} {A : Nat → Addr} {W : WX} {e : Expr} {pos : Pos}
def fListRev (f : Sg → Rs D) : Sg → Rs Sl := fun S => (f S).bind fun d => match d with
  | .list ds => .ok (.ow ds.reverse)
  | _ => .no
theorem ex_listRev {p p2 q2 : Pos} {f : Sg → Rs D} (hc : X.calm = true) (hg : Gl X "list") (hm : X.mg "list" = none) (hg2 : Gl X "reversed") (hm2 : X.mg "reversed" = none) (he : EK X A W .cn e f) (na : starEach [e] X.env = (false, eval e X.env) :: starEach [] X.env := by rfl)
    (na2 : starEach [.Call (.Name "reversed" p2) [e] [] q2] X.env = (false, eval (.Call (.Name "reversed" p2) [e] [] q2) X.env) :: starEach [] X.env := by rfl) : EX X A W (.Call (.Name "list" p) [.Call (.Name "reversed" p2) [e] [] q2] [] pos) (fListRev f) :=
  PE.imp (pe_listRev hc hg hm hg2 hm2 he na na2) fun σ H Q ⟨Z0, H0, Hz, S, m, q⟩ => by
    refine ⟨Z0, H0, Hz, S, m, PR.bind q fun d q v Hz' H' st rv => ?_⟩
    split at q
    · rename_i ds
      obtain ⟨a, xs, rfl, hx, r⟩ := Cn.lst_inv rv st.sub
      exact ⟨a, xs, rfl, SqL.of hx, fun l hl => pv_ow st.sub (PV.stp q st) hl r.reverse⟩
    · exact q.elim
end
end Sh

/-! ## Part J: a < b of lists of whole numbers -/
namespace Sh
open PySem PySem.Spec PyProof.Rows L2

def ltI : List Int → List Int → Bool
  | [], [] => false
  | [], _ :: _ => true
  | _ :: _, [] => false
  | x :: xs, y :: ys => if x = y then ltI xs ys else decide (x < y)
theorem ltI_eq : ∀ xs ys : List Int, ltI xs ys = PySem.W.DatumOrd.lt xs ys
  | [], [] => rfl
  | [], _ :: _ => rfl
  | _ :: _, [] => rfl
  | x :: xs, y :: ys => by
    show ltI (x :: xs) (y :: ys) = if x = y then PySem.W.DatumOrd.lt xs ys else decide (x < y)
    rw [← ltI_eq xs ys]
    rfl
def rLtL (K : PySem.W.Frag) : R2 := fun x y H Q => ∃ ns ms : List Int, Dp K H x (.list (ns.map PyData.int)) ∧ Dp K H y (.list (ms.map PyData.int)) ∧ Q (.bl (ltI ns ms)) H
theorem op_ltL {X : Cx} (hu : X.A.units + 64 < cLine) : OpR X (compareOp .Lt) (rLtL X.K) := by
  intro pins s σ H x y v u Q I rx ry h
  obtain ⟨ns, ms, hd, he, q⟩ := h
  obtain ⟨as, r1⟩ := Dp.reads I _ x v hd rx
  obtain ⟨bs, r2⟩ := Dp.reads I _ y u he ry
  exact PySem.W.lt_datum (α := List Int) ⟨as, r1⟩ ⟨bs, r2⟩ (Nat.lt_of_le_of_lt (Nat.add_le_add_left (by decide) _) hu) ⟨.bl _, H, I, rfl, by rw [← ltI_eq]; exact q⟩
def oLtL : D → D → Rs Sl
  | .list a, .list b => match ints? a, ints? b with
    | some ns, some ms => okB (ltI ns ms)
    | _, _ => .no
  | _, _ => .no
theorem n_ltL (x y : D) : NoEx (oLtL x y) := by
  intro c
  unfold oLtL
  split
  · split
    · exact fun z => nomatch z
    · exact fun z => nomatch z
  · exact fun z => nomatch z
section
variable {K : PySem.W.Frag}
theorem ints_some : ∀ {ds : List D} {ns : List Int}, ints? ds = some ns → ds = ns.map PyData.int
  | [], ns, h => by cases h; rfl
  | .int i :: r, ns, h => by
    unfold ints? at h
    cases q : ints? r with
    | none => rw [q] at h; cases h
    | some ms =>
      rw [q] at h
      cases h
      rw [ints_some q]; rfl
  | .none :: _, _, h => nomatch h
  | .bool _ :: _, _, h => nomatch h
  | .str _ :: _, _, h => nomatch h
  | .list _ :: _, _, h => nomatch h
  | .tuple _ :: _, _, h => nomatch h
  | .dict _ :: _, _, h => nomatch h
theorem k_ltL : OpOk .rd .rd K (rLtL K) oLtL := fun Hz H x y d1 d2 Q e h1 h2 q => by
  unfold oLtL at q
  split at q
  · split at q
    · rename_i a b ns ms ea eb
      have e1 := ints_some ea
      have e2 := ints_some eb
      subst e1 e2
      exact ⟨ns, ms, Rp.dp h1 (by simp [PyData.canLay0, PySem.W.ke_canLayAll0]), Rp.dp h2 (by simp [PyData.canLay0, PySem.W.ke_canLayAll0]), pv_bl e q⟩
    · exact q.elim
  · exact q.elim
end
end Sh

/-! ## Part K: len(set(a list of whole numbers)) -/
namespace Sh
open PySem PySem.Spec PyProof.Rows L2
/-- how many different ones -/
def dct (ns : List Int) : Nat := (firstMet (fun i => ns.getD i 0) ns.length).length
def tLenSet (K : PySem.W.Frag) (ta : TE) : TE := fun σ H Q => ta σ H fun x H1 => ∃ (l : Addr) (ns : List Int), x = .ref l ∧ SqL K H1 l (ns.map V.int) ∧ ns.length ≤ 1000 ∧ Q (.int (dct ns : Nat)) H1
theorem ints_are : ∀ {ns : List Int} {us : List Value}, Vals (ns.map V.int) us → IntsAre us ns
  | _, _, h => intsAre_of h
theorem pe_lenSet {X : Cx} {a : Expr} {ta : TE} {p p2 q pos : Pos} (hg : Gl X "len") (hm : X.mg "len" = none) (hg2 : Gl X "set") (hm2 : X.mg "set" = none) (ha : PE X a ta) (hc : X.calm = true := by rfl)
    (na : starEach [a] X.env = (false, eval a X.env) :: starEach [] X.env := by rfl) : PE X (.Call (.Name "len" p) [.Call (.Name "set" p2) [a] [] q] [] pos) (tLenSet X.K ta) := by
  refine ⟨fun pins s σ H Q I h => ?_⟩
  refine Call_ (ld_blt I hg hm boot_len ?_)
  refine PyProof.Rows.callWith_builtin1 (PyProof.Rows.args_cons ?_ rfl) rfl rfl
  refine Call_ (ld_blt I hg2 hm2 boot_set ?_)
  refine PyProof.Rows.callWith_type1 (PyProof.Rows.args_cons (thn (ha.run pins s σ H _ I h) fun v s1 ⟨x, H1, I1, r1, q1⟩ => PyProof.Rows.args_nil ?_) na) na rfl
  obtain ⟨l, ns, rfl, hq, hl, q1⟩ := q1
  cases r1
  obtain ⟨its, r, pl, hz⟩ := I1.list hq
  have hlen : its.toArray.size = ns.length := by rw [List.size_toArray, ← r.length, List.length_map]
  refine call_set_list (I1.ok.hd hc) pl.isList (by simpa using ints_are r) (by rw [hlen]; unfold scanBound; omega) fun h' tk hS hk => ?_
  refine PyProof.Rows.args_nil ?_
  rw [hlen] at hS
  have hb := firstMet_length_le (fun i => ns.getD i 0) ns.length
  obtain ⟨o, es, ep, t, ho, hex, hd, _, _, _, hf, hn⟩ := hS
  have I2 : Inv X pins σ H1 { s1 with heap := h', toks := tk } := I1.kept fun b o e => hk b o (Heap.lt_size e) e
  exact call_len_set ho hex hd hf (by rw [hn] <;> omega) ⟨.int (dct ns : Nat), H1, I2.tok _, ⟨_, by rw [hn]; rfl⟩, q1⟩
section
variable {X : Cx} {A : Nat → Addr} {W : WX} {e : Expr} {pos : Pos}
def fLenSet (f : Sg → Rs D) : Sg → Rs Sl := fun S => (f S).bind fun d => match d with
  | .list ds => (match ints? ds with
    | some ns => if ns.length ≤ 1000 then okI (dct ns : Nat) else .no
    | none => .no)
  | _ => .no
theorem ex_lenSet {p p2 q2 : Pos} {f : Sg → Rs D} (hg : Gl X "len") (hm : X.mg "len" = none) (hg2 : Gl X "set") (hm2 : X.mg "set" = none) (he : EK X A W .rd e f) (hc : X.calm = true := by rfl) (na : starEach [e] X.env = (false, eval e X.env) :: starEach [] X.env := by rfl) :
    EX X A W (.Call (.Name "len" p) [.Call (.Name "set" p2) [e] [] q2] [] pos) (fLenSet f) :=
  PE.imp (pe_lenSet hg hm hg2 hm2 he hc na) fun σ H Q ⟨Z0, H0, Hz, S, m, q⟩ => by
    refine ⟨Z0, H0, Hz, S, m, PR.bind q fun d q v Hz' H' st rv => ?_⟩
    split at q
    · rename_i ds
      split at q
      · rename_i ns hi
        split at q
        · rename_i hn
          have e1 := ints_some hi
          subst e1
          obtain ⟨a, xs, rfl, hx, r⟩ := Rp.lst_inv rv
          have := RpAll.ints_inv r
          subst this
          exact ⟨a, ns, rfl, SqL.of hx, hn, PV.stp q st _ _ _ (.refl st.sub) ⟨_, rfl, .int _⟩ fun _ w => w.elim⟩
        · exact q.elim
      · exact q.elim
    · exact q.elim
end
end Sh

/-! ## Part L: try: .. except ShareError as e: told = (isinstance(e, X), isinstance(e, ValueError), isinstance(e, Y)) -/
namespace Sh
open PySem PySem.Spec PyProof.Rows L2
theorem Mt.anyv {K : PySem.W.Frag} {Z0 H0 Hz H : Hp} {S : Sg} {σ : L2.St} {i : Nat} {o : Option V} (m : Mt K Z0 H0 Hz H S σ) (e : S[i]? = some .un) : Mt K Z0 H0 Hz H S (σ.set i o) := by
  refine ⟨m.st, by rw [List.length_set]; exact m.len, fun j t g => ?_, fun j t b g u => ?_, fun j k t u b g g' x y => ?_⟩
  · by_cases h : i = j
    · subst h; rw [e] at g; cases g; trivial
    · rw [getD_set_ne h]; exact m.sl j t g
  · by_cases h : i = j
    · subst h; rw [e] at g; cases g; exact u.elim
    · rw [getD_set_ne h] at u; exact m.hz j t b g u
  · by_cases h : i = j
    · subst h; rw [e] at g; cases g; exact x.elim
    · by_cases h' : i = k
      · subst h'; rw [e] at g'; cases g'; exact y.elim
      · rw [getD_set_ne h] at x
        rw [getD_set_ne h'] at y
        exact m.dj j k t u b g g' x y
/-- what must be known of the class that is caught -/
structure Tr3 (K : PySem.W.Frag) (A : Nat → Addr) (cS a1 a3 : Addr) (c : Nat) (b : Bool × Bool) : Prop where
  ec : ExcC K (A c)
  em : PySem.W.exmOne K (.ref (A c)) (.ref cS) = some true
  k1 : PySem.W.kitOne K (.ref (A c)) (.ref a1) = some b.1
  k2 : PySem.W.kitOne K (.ref (A c)) (.type "ValueError") = some true
  k3 : PySem.W.kitOne K (.ref (A c)) (.ref a3) = some b.2
def sTry3 (i j : Nat) (h : Nat → Option (Bool × Bool)) (g : Sg → Out) : Sg → Out := fun S => match g S with
  | .ex c S' => (match h c with
    | some b => if j < S'.length then .nx ((S'.set j .un).set i (.sh (.tuple [.bool b.1, .bool true, .bool b.2]))) else .no
    | none => .no)
  | o => o
section
variable {X : Cx} {A : Nat → Addr} {W : WX} {pos : Pos}
theorem pe_isE {a D ac : Addr} {oe : Obj} {pn : List (Addr × Obj)} {j : Nat} {x n : Str} {p p2 p3 : Pos} (C : ExcC X.K D) (hz : Zc (.ref D) none oe) (hf : ∃ vs, oe.data = .fields vs) (hj : X.N[j]? = some n) (hv : Vis X.env.scope n) (hg : Gl X "isinstance") (hm : X.mg "isinstance" = none) (hgx : Gl X x) (hmx : X.mg x = some (.ref ac)) (hdb : (x == ("__debug__" : Str)) = false) (hnd : (n == ("__debug__" : Str)) = false) (hnc : (n == ("__classdict__" : Str)) = false)
    (hs : starEach [.Name n p2, .Name x p3] X.env = (false, eval (.Name n p2) X.env) :: starEach [.Name x p3] X.env := by rfl) (hs2 : starEach [.Name x p3] X.env = (false, eval (.Name x p3) X.env) :: starEach [] X.env := by rfl) (hpl : (backTo pos (starEach [.Name x p3] X.env)).any (·.1) = false := by rfl) :
    PE (X.suite a ((a, oe) :: pn)) (.Call (.Name "isinstance" p) [.Name n p2, .Name x p3] [] pos) (tCB (rIsE X.K D a) (tCons (tVar j) (tCons (tC (.ref ac)) tNil))) :=
  pe_callB (X := X.suite a ((a, oe) :: pn)) (call_isE C hz hf) hg hm boot_isinstance (pa_cons (pe_var hj hv hnd hnc) (pa_cons (pe_glob (v := .ref ac) hgx hmx rfl hdb) pa_nil hs2) hs) (by decide) (by decide) hs hpl
theorem pe_isV {a D : Addr} {oe : Obj} {pn : List (Addr × Obj)} {j : Nat} {n : Str} {p p2 p3 : Pos} (C : ExcC X.K D) (hz : Zc (.ref D) none oe) (hf : ∃ vs, oe.data = .fields vs) (hj : X.N[j]? = some n) (hv : Vis X.env.scope n) (hg : Gl X "isinstance") (hm : X.mg "isinstance" = none) (hgx : Gl X "ValueError") (hmx : X.mg "ValueError" = none) (hnd : (n == ("__debug__" : Str)) = false) (hnc : (n == ("__classdict__" : Str)) = false)
    (hs : starEach [.Name n p2, .Name "ValueError" p3] X.env = (false, eval (.Name n p2) X.env) :: starEach [.Name "ValueError" p3] X.env := by rfl) (hs2 : starEach [.Name "ValueError" p3] X.env = (false, eval (.Name "ValueError" p3) X.env) :: starEach [] X.env := by rfl) (hpl : (backTo pos (starEach [.Name "ValueError" p3] X.env)).any (·.1) = false := by rfl) :
    PE (X.suite a ((a, oe) :: pn)) (.Call (.Name "isinstance" p) [.Name n p2, .Name "ValueError" p3] [] pos) (tCB (rIsE X.K D a) (tCons (tVar j) (tCons (tC (.ty "ValueError")) tNil))) :=
  pe_callB (X := X.suite a ((a, oe) :: pn)) (call_isE C hz hf) hg hm boot_isinstance (pa_cons (pe_var hj hv hnd hnc) (pa_cons (pe_bltn (v := .ty "ValueError") hgx hmx (by decide +kernel) rfl (by decide) (by decide)) pa_nil hs2) hs) (by decide) (by decide) hs hpl
/-- what the suite does, e the exception in slot j -/
def tsE (K : PySem.W.Frag) (A : Nat → Addr) (i j : Nat) (a1 a3 : Addr) (h : Nat → Option (Bool × Bool)) (a : Addr) (cls : Value) (d : Option Addr) : TS := fun Dn σ H => ∃ c b, cls = .ref (A c) ∧ d = none ∧ h c = some b ∧
  tAsg (tTup (tCons (tCB (rIsE K (A c) a) (tCons (tVar j) (tCons (tC (.ref a1)) tNil))) (tCons (tCB (rIsE K (A c) a) (tCons (tVar j) (tCons (tC (.ty "ValueError")) tNil))) (tCons (tCB (rIsE K (A c) a) (tCons (tVar j) (tCons (tC (.ref a3)) tNil))) tNil)))) (gName i) Dn σ H
theorem Mt.drop {K : PySem.W.Frag} {Z0 H0 Hz H : Hp} {S : Sg} {σ : L2.St} {i : Nat} {o : Option V} (m : Mt K Z0 H0 Hz H S σ) : Mt K Z0 H0 Hz H (S.set i .un) (σ.set i o) := by
  by_cases h : i < S.length
  · exact (m.forget i).anyv (by rw [List.getElem?_set_self h])
  · have e : σ.set i o = σ := List.set_eq_of_length_le (by rw [m.len]; omega)
    rw [e]
    exact m.forget i
theorem sx_try3 {i j : Nat} {n : Str} {a1 a3 cS : Addr} {h : Nat → Option (Bool × Bool)} {g : Sg → Out} {body suite : List Stmt} {b₀ : Stmt} {np pos' : Pos}
    (hst : X.stack = X.env :: X.outer) (hfr : X.env.frame = some X.env.locals) (hN : X.N.Nodup) (hj : X.N[j]? = some n) (hij : i ≠ j) (hln : X.env.kindOf n = some .local) (tk : Takes X W)
    (hgS : Gl X "ShareError") (hmS : X.mg "ShareError" = some (.ref cS)) (hT : ∀ c b, h c = some b → Tr3 X.K A cS a1 a3 c b)
    (hb : ∀ (W : WX) (pn : List (Addr × Obj)) (xe : Value → Shared → Prop), Takes (X.tr pn xe) W → PassesOwn (model X.prog X.w) X.A X.env xe → SB (X.tr pn xe) A W body g)
    (hsu : ∀ (a : Addr) (oe : Obj) (D : Addr) (pn : List (Addr × Obj)), ExcC X.K D → Zc (.ref D) none oe → (∃ vs, oe.data = .fields vs) → PSs (X.suite a ((a, oe) :: pn)) (b₀ :: suite)
      (tAsg (tTup (tCons (tCB (rIsE X.K D a) (tCons (tVar j) (tCons (tC (.ref a1)) tNil))) (tCons (tCB (rIsE X.K D a) (tCons (tVar j) (tCons (tC (.ty "ValueError")) tNil))) (tCons (tCB (rIsE X.K D a) (tCons (tVar j) (tCons (tC (.ref a3)) tNil))) tNil)))) (gName i))) :
    SX X A W (.Try body [.ExceptHandler (some (.Name "ShareError" np)) (some n) (b₀ :: suite) pos'] [] [] pos) (sTry3 i j h g) := by
  refine PS.imp (ps_try_as (ts := tsE X.K A i j a1 a3 h) (tb := fun W => tS X.K A W g) hst hfr hN hj hln ⟨hgS, by decide, .inl hmS⟩ tk hb (fun a oe cls d pn hz hf => ⟨fun pins s σ H D I q => ?_⟩)) fun Dn σ H hh => ?_
  · obtain ⟨c, b, rfl, rfl, hc, q⟩ := q
    exact (hsu a oe (A c) pn (hT c b hc).ec hz hf).run pins s σ H D I q
  · obtain ⟨Z0, H0, Hz, S, m, q⟩ := hh
    refine ⟨Z0, H0, Hz, S, m, ?_⟩
    unfold sTry3 at q
    cases hg : g S with
    | nx S' => rw [hg] at q; exact q
    | rt r => rw [hg] at q; exact q
    | bk S' => rw [hg] at q; exact q
    | ct S' => rw [hg] at q; exact q
    | no => rw [hg] at q; exact q
    | ex c S' =>
      rw [hg] at q
      cases hc : h c with
      | none => simp only [hc] at q; exact q.elim
      | some b =>
        simp only [hc] at q
        intro Hz' H' σ' ez m'
        split at q
        · rename_i hjS
          have T := hT c b hc
          refine ⟨true, T.em, fun _ a ha => ⟨c, b, rfl, rfl, hc, ?_⟩, fun z => nomatch z⟩
          have hlen : j < σ'.length := by rw [m'.len]; exact hjS
          have hget : (σ'.set j (some (V.ref a)))[j]? = some (some (V.ref a)) := List.getElem?_set_self hlen
          refine ⟨.ref a, hget, .ref a1, .ref a1, b.1, rfl, fun u hu => hu, T.k1, ?_⟩
          refine ⟨.ref a, hget, .ty "ValueError", .type "ValueError", true, rfl, fun u hu => hu, T.k2, ?_⟩
          refine ⟨.ref a, hget, .ref a3, .ref a3, b.2, rfl, fun u hu => hu, T.k3, ?_⟩
          refine ⟨by show 3 ≤ sizeLine; decide, fun p hp => ?_⟩
          have m2 := m'.drop (i := j) (o := none)
          have st := Stp.frz (o := HO.tup [V.bl b.1, V.bl true, V.bl b.2]) m2.st.sub hp
          have m3 := m2.set_new (i := i) (v := .ref p) (s := .sh (.tuple [.bool b.1, .bool true, .bool b.2])) st ⟨.ref p, rfl, .tup upd_same (.cons (.bl _) (.cons (.bl _) (.cons (.bl _) .nil)))⟩ (fun _ w => w.elim)
          have e : ((σ'.set j (some (V.ref a))).set i (some (V.ref p))).set j none = (σ'.set j none).set i (some (V.ref p)) := by
            rw [List.set_comm _ _ (Ne.symm hij), List.set_set]
            exact List.set_comm _ _ hij
          show Dn.nx (((σ'.set j (some (V.ref a))).set i (some (V.ref p))).set j none) _
          rw [e]
          exact q _ _ _ (ez.trans (Ex.new (m'.st.sub.none hp))) m3
        · exact q.elim
end
end Sh

/-! ## Part M: a dict of the own whose values are lists of the own -/
namespace Sh
open PySem PySem.Spec PyProof.Rows L2
def valL {κ : Type} [DecidableEq κ] (kvs : List (κ × List D)) (k : κ) : Option (List D) := (kvs.find? fun kv => decide (kv.1 = k)).map (·.2)
section
variable {K : PySem.W.Frag} {Hz H Hz' H' : Hp} {p : Addr} {ws : List (Key × V)} {as : List Addr} {kvs : List (Key × List D)}
theorem ol_val : ∀ {kvs : List (Key × List D)} {ws : List (Key × V)} {as : List Addr}, ws.map (·.1) = kvs.map (·.1) → ws.map (·.2) = as.map V.ref → InR K Hz H as (kvs.map (·.2)) → ∀ k : Key, (valV ws k).isSome = (valL kvs k).isSome ∧ ∀ ds, valL kvs k = some ds → ∃ a xs, valV ws k = some (.ref a) ∧ a ∈ as ∧ H a = some (.lst xs) ∧ Hz a = none ∧ RpAll K Hz xs ds
  | [], [], as, _, _, _, k => ⟨rfl, fun ds h => by cases h⟩
  | [], _ :: _, _, h, _, _, _ => by simp at h
  | _ :: _, [], _, h, _, _, _ => by simp at h
  | _ :: _, _ :: _, [], _, h, _, _ => by simp at h
  | (k0, d0) :: kvs, (k1, v1) :: ws, a1 :: as, h1, h2, .cons r t, k => by
    simp only [List.map_cons, List.cons.injEq] at h1 h2
    obtain ⟨e1, h1⟩ := h1
    obtain ⟨e2, h2⟩ := h2
    subst e1 e2
    obtain ⟨i1, i2⟩ := ol_val h1 h2 t k
    unfold valV valL at i1 i2 ⊢
    by_cases q : k1 = k
    · simp only [List.find?_cons, q, decide_true, Option.map_some, Option.isSome_some, true_and]
      intro ds hd
      cases hd
      obtain ⟨z, xs, hx, rx⟩ := r
      exact ⟨a1, xs, rfl, List.mem_cons_self, hx, z, rx⟩
    · simp only [List.find?_cons, q, decide_false]
      refine ⟨i1, fun ds hd => ?_⟩
      obtain ⟨a, xs, e, m, rest⟩ := i2 ds hd
      exact ⟨a, xs, e, List.mem_cons_of_mem _ m, rest⟩
theorem OL.val (q : OL K Hz H p ws as kvs) (k : Key) : (valV ws k).isSome = (valL kvs k).isSome ∧ ∀ ds, valL kvs k = some ds → ∃ a xs, valV ws k = some (.ref a) ∧ a ∈ as ∧ H a = some (.lst xs) ∧ Hz a = none ∧ RpAll K Hz xs ds := ol_val q.wk q.wv q.inr k
theorem put_absent {κ : Type} [DecidableEq κ] {ws : List (κ × V)} {k : κ} {v : V} (h : (valV ws k).isSome = false) : putK ws k v = ws ++ [(k, v)] := by
  unfold putK
  rw [if_neg]
  intro z
  rw [List.any_eq_true] at z
  obtain ⟨x, hx, hk⟩ := z
  unfold valV at h
  cases q : ws.find? fun kv => decide (kv.1 = k) with
  | none => exact (List.find?_eq_none.mp q x hx) hk
  | some y => rw [q] at h; cases h
end
section
variable {X : Cx} {A : Nat → Addr} {W : WX} {e : Expr} {pos : Pos}
/-- d[k] read now -/
def fOGet (i : Nat) (fk : Sg → Rs D) : Sg → Rs D := fun S => match S[i]? with
  | some (.ol kvs) => (fk S).bind fun d => match keyK d with
    | some k => (match valL kvs k with
      | some ds => .ok (.list ds)
      | none => .no)
    | none => .no
  | _ => .no
theorem ec_oget {i : Nat} {x : Str} {p2 : Pos} {fk : Sg → Rs D} (hu : X.A.units + 1 < cLine) (hi : X.N[i]? = some x) (hx : Vis X.env.scope x) (hk : EK X A W .rd e fk) (hs : NoSl e) (hd : (x == ("__debug__" : Str)) = false := by decide) (hcd : (x == ("__classdict__" : Str)) = false := by decide) : EK X A W .cn (.Subscript (.Name x p2) e pos) (fOGet i fk) :=
  PE.imp (pe_dget hu (pe_var hi hx hd hcd) hk hs) fun σ H Q ⟨Z0, H0, Hz, S, m, q⟩ => by
    unfold fOGet at q
    split at q
    · rename_i kvs e1
      obtain ⟨p, ws, as, ev, o⟩ := m.sl i _ e1
      refine ⟨.ref p, getD_some ev, Z0, H0, Hz, S, m, PR.bind q fun d q v Hz' H' st rv => ?_⟩
      split at q
      · rename_i kk hkk
        split at q
        · rename_i ds hds
          have m' := m.stp st
          obtain ⟨p', ws', as', ev', o'⟩ := m'.sl i _ e1
          rw [ev] at ev'; cases ev'
          obtain ⟨a, xs, hv, ma, ha, za, ra⟩ := (o'.val kk).2 ds hds
          rw [keyK_rp hkk rv]
          exact ⟨p, .ref a, rfl, by have := DGet.k (k := kk) o'.top; rw [hv] at this; exact this, q (.ref a) Hz' H' st (.inr ⟨a, xs, ds, rfl, rfl, ha, ra⟩)⟩
        · exact q.elim
      · exact q.elim
    · exact q.elim
def fOIn (i : Nat) (fk : Sg → Rs D) : Sg → Rs Bool := fun S => (fk S).bind fun d => match S[i]? with
  | some (.ol kvs) => (match keyK d with
    | some k => .ok (valL kvs k).isSome
    | none => .no)
  | _ => .no
theorem oin_core {K : PySem.W.Frag} {i : Nat} {fk : Sg → Rs D} {R : Bool → Hp → Prop} {σ : L2.St} {H : Hp} (h : tT K A W (fOIn i fk) σ H R) : tK K A W .rd fk σ H fun y H1 => tVar i σ H1 fun x H2 => ∃ a o, x = .ref a ∧ DGet H2 a y o ∧ R o.isSome H2 := by
  obtain ⟨Z0, H0, Hz, S, m, q⟩ := h
  refine ⟨Z0, H0, Hz, S, m, PR.bind q fun d q v Hz' H' st rv => ?_⟩
  split at q
  · rename_i kvs e1
    split at q
    · rename_i kk hkk
      have m' := m.stp st
      obtain ⟨p, ws, as, ev, o⟩ := m'.sl i _ e1
      refine ⟨.ref p, getD_some ev, p, valV ws kk, rfl, ?_, ?_⟩
      · rw [keyK_rp hkk rv]; exact DGet.k o.top
      · rw [(o.val kk).1]; exact q Hz' H' st
    · exact q.elim
  · exact q.elim
theorem et_oin {i : Nat} {x : Str} {p2 : Pos} {fk : Sg → Rs D} (hu : X.A.units + 1 < cLine) (hk : EK X A W .rd e fk) (hi : X.N[i]? = some x) (hx : Vis X.env.scope x) (hd : (x == ("__debug__" : Str)) = false := by decide) (hcd : (x == ("__classdict__" : Str)) = false := by decide) (h1 : behindInMarks .In (.Name x p2) = false := by rfl) : ET X A W (.Compare e [.In] [.Name x p2] pos) (fOIn i fk) :=
  PT.imp (pt_cmp (pc_din hu hk (pe_var hi hx hd hcd)) h1) fun σ H Q h => oin_core (R := fun k H1 => ∃ c, V.bl k = .bl c ∧ Q c H1) (by
    obtain ⟨Z0, H0, Hz, S, m, q⟩ := h
    exact ⟨Z0, H0, Hz, S, m, q.imp fun b q Hz' H' st => ⟨b, rfl, q Hz' H' st⟩⟩)
theorem et_onotin {i : Nat} {x : Str} {p2 : Pos} {fk : Sg → Rs D} (hu : X.A.units + 1 < cLine) (hk : EK X A W .rd e fk) (hi : X.N[i]? = some x) (hx : Vis X.env.scope x) (hd : (x == ("__debug__" : Str)) = false := by decide) (hcd : (x == ("__classdict__" : Str)) = false := by decide) (h1 : behindInMarks .NotIn (.Name x p2) = false := by rfl) : ET X A W (.Compare e [.NotIn] [.Name x p2] pos) (tN (fOIn i fk)) :=
  PT.imp (pt_cmp (pc_dnotin hu hk (pe_var hi hx hd hcd)) h1) fun σ H Q h => oin_core (R := fun k H1 => ∃ c, V.bl (!k) = .bl c ∧ Q c H1) (by
    obtain ⟨Z0, H0, Hz, S, m, q⟩ := h
    exact ⟨Z0, H0, Hz, S, m, PR.bind q fun b q Hz' H' st => ⟨_, rfl, q Hz' H' st⟩⟩)
/-- {k: []} and the like: a dict with one new list -/
def fDOne (fk : Sg → Rs D) (fv : Sg → Rs Sl) : Sg → Rs Sl := fun S => (fk S).bind fun d => (fv S).bind fun s => match keyK d with
  | some k => (match s with
    | .ow ds => .ok (.ol [(k, ds)])
    | _ => .no)
  | none => .no
theorem ex_d1 {ke ve : Expr} {fk : Sg → Rs D} {fv : Sg → Rs Sl} (hk : EK X A W .rd ke fk) (hv : EX X A W ve fv) : EX X A W (.Dict [some ke] [ve] pos) (fDOne fk fv) :=
  PE.imp (pe_disp (pps_cons hk hv pps_nil) rfl rfl (by simp) (by simp)) fun σ H Q ⟨Z0, H0, Hz, S, m, q⟩ => fun p hp => by
    have st0 : Stp Hz H Hz (upd H p (.dK [])) := Stp.own m.st.sub hp
    have m0 := m.stp st0
    refine ⟨Z0, H0, Hz, S, m0, PR.stp (PR.bind q fun d q => q) st0 fun d q v Hz1 H1 st1 rv => ?_⟩
    have m1 := m0.stp st1
    refine ⟨Z0, H0, Hz1, S, m1, PR.stp (PR.bind q fun s q => q) (st0.trans st1) fun s q w Hz2 H2 st2 sr fr => ?_⟩
    split at q
    · rename_i kk hkk
      split at q
      · rename_i ds
        obtain ⟨b, xs, eb, hb, zb, rb⟩ := sr
        cases eb
        have nb : H1 b = none := fr b rfl
        have hp1 : H1 p = some (.dK []) := st1.ex _ _ upd_same
        have hp2 : H2 p = some (.dK []) := st2.ex _ _ hp1
        have nbp : b ≠ p := fun z => by rw [z, hp1] at nb; cases nb
        have zp : Hz2 p = none := st2.nw _ _ hp1 (st1.nw _ _ upd_same (m.st.sub.none hp))
        show H2 p = some (.dK []) ∧ ∃ kvs : List (Key × V), [(v, V.ref b)] = kvs.map (fun kv => (kV kv.1, kv.2)) ∧ kvs.length ≤ 15 ∧ Q (.ref p) (upd H2 p (.dK (mergeK [] kvs)))
        refine ⟨hp2, [(kk, .ref b)], by rw [keyK_rp hkk rv]; rfl, by simp, ?_⟩
        have st3 : Stp Hz H Hz2 H2 := (st0.trans st1).trans st2
        have st4 : Stp Hz H Hz2 (upd H2 p (.dK (mergeK [] [(kk, V.ref b)]))) := ⟨st3.ex.mut hp, st3.exz, st3.sub.mut zp, st3.nk⟩
        refine q (.ref p) Hz2 _ st4 ⟨p, [(kk, .ref b)], [b], rfl, upd_same, rfl, rfl, by simp, by simpa using nbp.symm, zp, .cons ⟨zb, xs, by rw [upd_ne nbp]; exact hb, rb⟩ .nil⟩ fun a w => ?_
        rcases w with w | ⟨p', ws', as', w, hh, hv', ma⟩
        · cases w; exact hp
        · cases w
          rw [upd_same] at hh
          injection hh with hh; injection hh with hh
          subst hh
          have e : [b] = as' := refs_inj hv'
          subst e
          rw [List.mem_singleton] at ma; subst ma
          exact (st0.trans st1).ex.none nb
      · exact q.elim
    · exact q.elim
/-- d[k] = a new list, k not there before -/
def sOPut (i : Nat) (fk : Sg → Rs D) (fv : Sg → Rs Sl) : Sg → Out := fun S => (fv S).thenO S fun s => match s with
  | .ow ds => (match S[i]? with
    | some (.ol kvs) => (fk S).thenO S fun d => (match keyK d with
      | some k => if kvs.length < LIM ∧ (valL kvs k).isSome = false then .nx (S.set i (.ol (kvs ++ [(k, ds)]))) else .no
      | none => .no)
    | _ => .no)
  | _ => .no
theorem sx_oput {i : Nat} {x : Str} {ke : Expr} {p2 p3 : Pos} {fk : Sg → Rs D} {fv : Sg → Rs Sl} (hu : X.A.units + 1 < cLine) (hi : X.N[i]? = some x) (hx : Vis X.env.scope x) (hk : EK X A W .rd ke fk) (hv : EX X A W e fv) (hs : swapsWith e (some (.Subscript (.Name x p2) ke p3)) pos.line X.env = pure false := by rfl)
    (hd : (x == ("__debug__" : Str)) = false := by decide) (hcd : (x == ("__classdict__" : Str)) = false := by decide) : SX X A W (.Assign [.Subscript (.Name x p2) ke p3] e pos) (sOPut i fk fv) :=
  PS.imp (ps_dput hu (pe_var hi hx hd hcd) hk hv hs) fun Dn σ H ⟨Z0, H0, Hz, S, m, q⟩ => by
    refine ⟨Z0, H0, Hz, S, m, PO.bind m q fun s q u Hz1 H1 st1 sr fr => ?_⟩
    have m1 := m.stp st1
    split at q
    · rename_i ds
      obtain ⟨b, xs, eb, hb, zb, rb⟩ := sr
      cases eb
      have nb : H b = none := fr b rfl
      split at q
      · rename_i kvs e1
        obtain ⟨p, ws, as, ev, o⟩ := m.sl i _ e1
        refine ⟨.ref p, getD_some ev, Z0, H0, Hz1, S, m1, PO.bind m1 (q.ez st1.exz) fun d q y Hz2 H2 st2 ry => ?_⟩
        split at q
        · rename_i kk hkk
          split at q
          · rename_i hl
            have m2 := m1.stp st2
            obtain ⟨p', ws', as', ev', o'⟩ := m2.sl i _ e1
            rw [ev] at ev'; cases ev'
            have nbp : b ≠ p := fun z => by rw [z, o.top] at nb; cases nb
            have ew : ws' = ws := by
              have h1 := (st1.trans st2).ex _ _ o.top
              rw [o'.top] at h1
              injection h1 with h1; injection h1 with h1
            subst ew
            have ea : as' = as := refs_inj (o'.wv.symm.trans o.wv)
            subst ea
            have nas : b ∉ as' := fun mm => by
              obtain ⟨_, _, _, xs', hx', _⟩ := paired_mem o.inr b mm
              rw [nb] at hx'; cases hx'
            rw [keyK_rp hkk ry]
            have hsome : (valV ws' kk).isSome = false := by rw [(o'.val kk).1]; exact hl.2
            have hlen : ws'.length = kvs.length := by
              have := congrArg List.length o'.wk
              simpa using this
            refine ⟨p, _, rfl, DPut.k (k := kk) o'.top (lim' (by rw [hlen]; exact Nat.le_of_lt hl.1)), q Hz2 _ σ st2.exz ?_⟩
            refine m2.mut e1 (a := p) (.inl ev) ⟨p, ws' ++ [(kk, .ref b)], as' ++ [b], ev, by rw [upd_same, put_absent hsome], by rw [List.map_append, List.map_append, o'.wk]; rfl, by rw [List.map_append, List.map_append, o'.wv]; rfl, ?_, ?_, o'.hz, ?_⟩ fun c w => ?_
            · rw [List.nodup_append]
              exact ⟨o'.nd, by simp, fun x hx y hy => by rw [List.mem_singleton] at hy; subst hy; exact fun z => nas (z ▸ hx)⟩
            · rw [List.mem_append, List.mem_singleton, not_or]
              exact ⟨o'.np, nbp.symm⟩
            · rw [List.map_append]
              exact InR.snoc (o'.inr.other o'.np) ⟨st2.nw _ _ hb zb, xs, by rw [upd_ne nbp]; exact st2.ex _ _ hb, rb.mono st2.exz⟩
            · rcases w with w | ⟨p2', ws2, as2, w, hh, hv2, mm⟩
              · exact .inl (.inl w)
              · rw [ev] at w; cases w
                rw [upd_same, put_absent hsome] at hh
                injection hh with hh; injection hh with hh
                subst hh
                have : as' ++ [b] = as2 := refs_inj (by rw [List.map_append, ← hv2, List.map_append, o'.wv]; rfl)
                subst this
                rcases List.mem_append.mp mm with mm | mm
                · exact .inl (.inr ⟨p, ws', as', ev, o'.top, o'.wv, mm⟩)
                · rw [List.mem_singleton] at mm; subst mm
                  exact .inr ⟨m.st.ex.none nb, m.noOw (Hz' := Hz) nb (st1.trans st2).ex⟩
          · exact q.elim
        · exact q.elim
      · exact q.elim
    · exact q.elim
/-- return d.get(k): the list goes out, the dict is left behind -/
def sRetO (i : Nat) (fk : Sg → Rs D) : Sg → Out := fun S => match S[i]? with
  | some (.ol kvs) => (fk S).thenO S fun d => match keyK d with
    | some k => (match valL kvs k with
      | some ds => .rt (.ow ds)
      | none => .rt (.sh .none))
    | none => .no
  | _ => .no
theorem sx_retO {i : Nat} {x : Str} {p2 apos cpos : Pos} {fk : Sg → Rs D} (hu : X.A.units + 1 < cLine) (hi : X.N[i]? = some x) (hx : Vis X.env.scope x) (hk : EK X A W .rd e fk) (mm : M1 X (.Name x p2) "get" apos e cpos) (hd : (x == ("__debug__" : Str)) = false := by decide) (hcd : (x == ("__classdict__" : Str)) = false := by decide) :
    SX X A W (.Return (some (.Call (.Attribute (.Name x p2) "get" apos) [e] [] cpos)) pos) (sRetO i fk) :=
  PS.imp (ps_ret (pe_dget1 hu (pe_var hi hx hd hcd) hk mm)) fun Dn σ H ⟨Z0, H0, Hz, S, m, q⟩ => by
    unfold sRetO at q
    split at q
    · rename_i kvs e1
      obtain ⟨p, ws, as, ev, o⟩ := m.sl i _ e1
      refine ⟨.ref p, getD_some ev, p, rfl, .inl ⟨ws, .inl o.top⟩, Z0, H0, Hz, S, m, PO.bind m q fun d q v Hz' H' st rv => ?_⟩
      have m' := m.stp st
      obtain ⟨p', ws', as', ev', o'⟩ := m'.sl i _ e1
      rw [ev] at ev'; cases ev'
      split at q
      · rename_i kk hkk
        rw [keyK_rp hkk rv]
        refine ⟨valV ws' kk, DGet.k o'.top, ?_⟩
        split at q
        · rename_i ds hds
          obtain ⟨a, xs, hv, ma, ha, za, ra⟩ := (o'.val kk).2 ds hds
          rw [hv]
          exact q (.ref a) Hz' H' m'.st ⟨a, xs, rfl, ha, za, ra⟩ fun b w => by
            have w' : some (V.ref a) = some (.ref b) := w
            cases w'
            exact m'.hz i _ a e1 (.inr ⟨p, ws', as', ev, o'.top, o'.wv, ma⟩)
        · rename_i hds
          have hn := (o'.val kk).1
          rw [hds] at hn
          have : valV ws' kk = none := by
            cases z : valV ws' kk with
            | none => rfl
            | some u => rw [z] at hn; cases hn
          rw [this]
          exact q .non Hz' H' m'.st ⟨_, rfl, .non⟩ fun b w => w.elim
      · exact q.elim
    · exact q.elim
end
end Sh

/-! ## Part N: a tuple of the own, its last item a list of the own -/
namespace Sh
open PySem PySem.Spec PyProof.Rows L2
section
variable {X : Cx} {A : Nat → Addr} {W : WX} {e e1 e2 : Expr} {pos : Pos}
def fTL (f : Sg → Rs D) (g : Sg → Rs Sl) : Sg → Rs Sl := fun S => (f S).bind fun d => (g S).bind fun s => match s with
  | .ow ds => .ok (.tl [d] ds)
  | _ => .no
theorem ex_tl {x1} {f : Sg → Rs D} {g : Sg → Rs Sl} (h1 : EK X A W .st e1 f) (h2 : EX X A W e2 g) (hs : starEach [e1, e2] X.env = (false, eval e1 X.env) :: starEach [e2] X.env := by rfl) (hs2 : starEach [e2] X.env = (false, eval e2 X.env) :: starEach [] X.env := by rfl) : EX X A W (.Tuple [e1, e2] x1 pos) (fTL f g) :=
  PE.imp (pe_tup (pa_cons h1 (pa_cons h2 pa_nil hs2) hs)) fun σ H Q ⟨Z0, H0, Hz, S, m, q⟩ => by
    refine ⟨Z0, H0, Hz, S, m, PR.bind q fun d q v Hz1 H1 st1 rv => ?_⟩
    have m1 := m.stp st1
    refine ⟨Z0, H0, Hz1, S, m1, PR.stp (PR.bind q fun s q => q) st1 fun s q w Hz2 H2 st2 sr fr => ?_⟩
    split at q
    · rename_i ds
      obtain ⟨a, xs, ea, ha, za, ra⟩ := sr
      cases ea
      have na : H1 a = none := fr a rfl
      refine ⟨by show 2 ≤ sizeLine; decide, fun p hp => ?_⟩
      have zp : Hz2 p = none := (st1.trans st2).sub.none hp
      have nap : p ≠ a := fun z => by rw [z, ha] at hp; cases hp
      have st3 : Stp Hz H Hz2 (upd H2 p (.tup [v, .ref a])) := by
        have st := st1.trans st2
        exact ⟨fun b u hb => by rw [upd_ne (ne_of_none (st.ex b u hb) hp)]; exact st.ex b u hb, st.exz, st.sub.mut zp, st.nk⟩
      refine q (.ref p) Hz2 _ st3 ⟨p, a, [v], rfl, upd_same, zp, nap, za, .cons (Rp.mono st2.exz rv) .nil, xs, by rw [upd_ne nap.symm]; exact ha, ra⟩ fun b w => ?_
      rcases w with w | ⟨p', vs', w, hh⟩
      · cases w
        exact (st1.trans st2).ex.none hp
      · cases w
        rw [upd_same] at hh
        injection hh with hh; injection hh with hh
        have h2 := (List.append_inj' (show [v] ++ [V.ref a] = vs' ++ [V.ref b] from hh) rfl).2
        injection h2 with h2; injection h2 with h2
        subst h2
        exact st1.ex.none na
    · exact q.elim
/-- return (e1, e2, x), x a list of the own -/
def sRetTL (i : Nat) (f g : Sg → Rs D) : Sg → Out := fun S => (f S).thenO S fun d => (g S).thenO S fun d' => match S[i]? with
  | some (.ow ds) => .rt (.tl [d, d'] ds)
  | _ => .no
theorem sx_retTL {i : Nat} {x : Str} {x1} {p2 pt : Pos} {f g : Sg → Rs D} (h1 : EK X A W .st e1 f) (h2 : EK X A W .st e2 g) (hi : X.N[i]? = some x) (hx : Vis X.env.scope x) (hd : (x == ("__debug__" : Str)) = false := by decide) (hcd : (x == ("__classdict__" : Str)) = false := by decide)
    (hs : starEach [e1, e2, .Name x p2] X.env = (false, eval e1 X.env) :: starEach [e2, .Name x p2] X.env := by rfl) (hs2 : starEach [e2, .Name x p2] X.env = (false, eval e2 X.env) :: starEach [.Name x p2] X.env := by rfl) (hs3 : starEach [.Name x p2] X.env = (false, eval (.Name x p2) X.env) :: starEach [] X.env := by rfl) :
    SX X A W (.Return (some (.Tuple [e1, e2, .Name x p2] x1 pt)) pos) (sRetTL i f g) :=
  PS.imp (ps_ret (pe_tup (pa_cons h1 (pa_cons h2 (pa_cons (pe_var hi hx hd hcd) pa_nil hs3) hs2) hs))) fun Dn σ H ⟨Z0, H0, Hz, S, m, q⟩ => by
    refine ⟨Z0, H0, Hz, S, m, PO.bind m q fun d q v Hz1 H1 st1 rv => ?_⟩
    have m1 := m.stp st1
    refine ⟨Z0, H0, Hz1, S, m1, PO.bind m1 (q.ez st1.exz) fun d' q v' Hz2 H2 st2 rv' => ?_⟩
    have m2 := m1.stp st2
    split at q
    · rename_i ds e1
      obtain ⟨a, xs, ev, ha, za, ra⟩ := m2.sl i _ e1
      refine ⟨.ref a, getD_some ev, by show 3 ≤ sizeLine; decide, fun p hp => ?_⟩
      have zp : Hz2 p = none := m2.st.sub.none hp
      have nap : p ≠ a := fun z => by rw [z, ha] at hp; cases hp
      have st3 : Stp Z0 H0 Hz2 (upd H2 p (.tup [v, v', .ref a])) := by
        have st := m2.st
        exact ⟨fun b u hb => by rw [upd_ne (ne_of_none (st.ex b u hb) hp)]; exact st.ex b u hb, st.exz, st.sub.mut zp, st.nk⟩
      refine q (.ref p) Hz2 _ st3 ⟨p, a, [v, v'], rfl, upd_same, zp, nap, za, .cons (Rp.mono st2.exz rv) (.cons rv' .nil), xs, by rw [upd_ne nap.symm]; exact ha, ra⟩ fun b w => ?_
      rcases w with w | ⟨p', vs', w, hh⟩
      · cases w
        exact m2.st.ex.none hp
      · cases w
        rw [upd_same] at hh
        injection hh with hh; injection hh with hh
        have h2 := (List.append_inj' (show [v, v'] ++ [V.ref a] = vs' ++ [V.ref b] from hh) rfl).2
        injection h2 with h2; injection h2 with h2
        subst h2
        exact m2.hz i _ a e1 ev
    · exact q.elim
theorem atI_last {α : Type} (xs : List α) (x : α) : L2.atI (xs ++ [x]) (-1) = some x := by
  unfold L2.atI ixN
  have h2 : -(((xs ++ [x]).length : Nat) : Int) ≤ -1 := by simp; omega
  rw [if_neg (by decide), if_pos h2]
  have h3 : ((-1 : Int) + (((xs ++ [x]).length : Nat) : Int)).toNat = xs.length := by simp; omega
  show (xs ++ [x])[((-1 : Int) + (((xs ++ [x]).length : Nat) : Int)).toNat]? = some x
  rw [h3, List.getElem?_append_right (Nat.le_refl _), Nat.sub_self]; rfl
/-- x[-1].append(e) -/
def sTLApp (i : Nat) (fk f : Sg → Rs D) : Sg → Out := fun S => match S[i]? with
  | some (.tl ds last) => (fk S).thenO S fun kd => match kd with
    | .int k => if k = -1 then (f S).thenO S fun d => if last.length < LIM then .nx (S.set i (.tl ds (last ++ [d]))) else .no else .no
    | _ => .no
  | _ => .no
theorem sx_tlApp {i : Nat} {x : Str} {ke : Expr} {p2 p3 apos cpos : Pos} {fk f : Sg → Rs D} (hi : X.N[i]? = some x) (hx : Vis X.env.scope x) (hk : EK X A W .rd ke fk) (he : EK X A W .st e f) (hsub : PlainIx ke) (hd : (x == ("__debug__" : Str)) = false := by decide) (hcd : (x == ("__classdict__" : Str)) = false := by decide)
    (hbase : attributeBase (.Subscript (.Name x p2) ke p3) "append" X.env (eval (.Subscript (.Name x p2) ke p3) X.env) = eval (.Subscript (.Name x p2) ke p3) X.env := by rfl)
    (hfew : ((backTo cpos (starEach [e] X.env)).all (fun x => !x.1) && (backToKw cpos (keywordEach [] X.env)).all (fun x => x.1.isSome)
      && decide ([e].length + ([] : List Keyword).length + (if ([] : List Keyword).isEmpty then 0 else 1) < 30)) = true := by rfl)
    (hline : (apos.endLine == cpos.line) = true := by rfl) (hs : starEach [e] X.env = (false, eval e X.env) :: starEach [] X.env := by rfl) (hplain : (backTo cpos (starEach [] X.env)).any (·.1) = false := by rfl)
    (hsw : swapsWith (.Call (.Attribute (.Subscript (.Name x p2) ke p3) "append" apos) [e] [] cpos) none pos.line X.env = pure false := by rfl) :
    SX X A W (.Expr (.Call (.Attribute (.Subscript (.Name x p2) ke p3) "append" apos) [e] [] cpos) pos) (sTLApp i fk f) :=
  PS.imp (ps_expr (pe_bm PySem.F.plainAttrs_list PySem.F.slot_list_append PySem.F.type_list_append mt_append (pe_ix ix_tup (pe_var hi hx hd hcd) hk hsub) (pa_cons he pa_nil hs) hbase hfew hline hs hplain) hsw) fun Dn σ H ⟨Z0, H0, Hz, S, m, q⟩ => by
    unfold sTLApp at q
    split at q
    · rename_i ds last e1
      obtain ⟨p, a, vs, ev, o⟩ := m.sl i _ e1
      refine ⟨.ref p, getD_some ev, Z0, H0, Hz, S, m, PO.bind m q fun kd q vk Hz1 H1 st1 rk => ?_⟩
      split at q
      · rename_i k
        split at q
        · rename_i hk1
          subst hk1
          have m1 := m.stp st1
          obtain ⟨p', a1, vs1, ev', o1⟩ := m1.sl i _ e1
          rw [ev] at ev'; cases ev'
          obtain ⟨xs, hax, ra⟩ := o1.ra
          refine ⟨p, vs1 ++ [.ref a1], -1, .ref a1, rfl, Rp.int_inv rk, SqT.of o1.top, atI_last vs1 (.ref a1), .inl ⟨rfl, xs, SqL.of hax⟩, Z0, H0, Hz1, S, m1, PO.bind m1 (q.ez st1.exz) fun d q v Hz2 H2 st2 rv => ?_⟩
          split at q
          · rename_i hl
            have m2 := m1.stp st2
            have ra2 := ra.mono st2.exz
            have top2 := st2.ex _ _ o1.top
            have ha2 := st2.ex _ _ hax
            refine ⟨a1, xs, v, rfl, rfl, ha2, lim' (by rw [ra2.length]; omega), q Hz2 _ σ st2.exz ?_⟩
            have top3 : upd H2 a1 (.lst (xs ++ [v])) p = some (.tup (vs1 ++ [.ref a1])) := by rw [upd_ne o1.ne]; exact top2
            refine m2.mut e1 (a := a1) (.inr ⟨p, vs1, ev, top2⟩) ⟨p, a1, vs1, ev, top3, st2.nw _ _ o1.top o1.hz, o1.ne, st2.nw _ _ hax o1.za, o1.rs.mono st2.exz, xs ++ [v], upd_same, ra2.snoc rv⟩ fun b w => .inl ?_
            rcases w with w | ⟨p2, vs2, w, hh⟩
            · exact .inl w
            · rw [ev] at w; cases w
              rw [top3] at hh
              exact .inr ⟨p, vs2, ev, by rw [← hh]; exact top2⟩
          · exact q.elim
        · exact q.elim
      · exact q.elim
    · exact q.elim
end
end Sh

/-! ## Part O: a def that changes the list of lists that is handed in, and gives it back; insert, pop -/
namespace Sh
open PySem PySem.Spec PyProof.Rows L2
section
variable {K : PySem.W.Frag} {Z0 H0 Hz H H' Hz' : Hp} {S : Sg} {σ : L2.St} {s t : Sl} {o : Option V} {a b : Addr} {i j : Nat}
/-- a slot's thing is as it is over a heap that has its own cells -/
theorem SlR.agree (r : SlR K Hz H s o) (h : ∀ b u, Ow H s o b → H b = some u → H' b = some u) : SlR K Hz H' s o := by
  cases s with
  | un => trivial
  | sh d => exact r
  | ow ds => obtain ⟨a, xs, e, hx, z, q⟩ := r; exact ⟨a, xs, e, h a _ e hx, z, q⟩
  | od ds => obtain ⟨a, xs, e, hx, z, q⟩ := r; exact ⟨a, xs, e, h a _ e hx, z, q⟩
  | ot ds => obtain ⟨a, xs, e, hx, z, q⟩ := r; exact ⟨a, xs, e, h a _ e hx, z, q⟩
  | o2 dss =>
    obtain ⟨p, as, e, q⟩ := r
    refine ⟨p, as, e, h p _ (.inl e) q.top, q.nd, q.np, q.hz, ?_⟩
    have go : ∀ {bs : List Addr} {ess : List (List D)}, InR K Hz H bs ess → (∀ b ∈ bs, b ∈ as) → InR K Hz H' bs ess := by
      intro bs ess r
      induction r with
      | nil => intro _; exact .nil
      | cons r _ ih =>
        intro hb
        obtain ⟨z, xs, hx, r⟩ := r
        exact .cons ⟨z, xs, h _ _ (.inr ⟨p, as, e, q.top, hb _ List.mem_cons_self⟩) hx, r⟩ (ih fun b m => hb b (List.mem_cons_of_mem _ m))
    exact go q.inr fun _ h => h
  | ol kvs =>
    obtain ⟨p, ws, as, e, q⟩ := r
    refine ⟨p, ws, as, e, h p _ (.inl e) q.top, q.wk, q.wv, q.nd, q.np, q.hz, ?_⟩
    have go : ∀ {bs : List Addr} {ess : List (List D)}, InR K Hz H bs ess → (∀ b ∈ bs, b ∈ as) → InR K Hz H' bs ess := by
      intro bs ess r
      induction r with
      | nil => intro _; exact .nil
      | cons r _ ih =>
        intro hb
        obtain ⟨z, xs, hx, r⟩ := r
        exact .cons ⟨z, xs, h _ _ (.inr ⟨p, ws, as, e, q.top, q.wv, hb _ List.mem_cons_self⟩) hx, r⟩ (ih fun b m => hb b (List.mem_cons_of_mem _ m))
    exact go q.inr fun _ h => h
  | tl ds last =>
    obtain ⟨p, a, vs, e, q⟩ := r
    obtain ⟨xs, hx, rx⟩ := q.ra
    exact ⟨p, a, vs, e, h p _ (.inl e) q.top, q.hz, q.ne, q.za, q.rs, xs, h a _ (.inr ⟨p, vs, e, q.top⟩) hx, rx⟩
open Classical in
/-- slot i's thing is taken out of the heap -/
theorem Mt.take (m : Mt K Z0 H0 Hz H S σ) (e : S[i]? = some s) : ∃ Hn, Ex Hn H ∧ Ex Hz Hn ∧ (∀ a, Ow H s (σ.getD i none) a → Hn a = none) ∧ Mt K Z0 H0 Hz Hn (S.set i .un) σ := by
  let Hn : Hp := fun b => if Ow H s (σ.getD i none) b then none else H b
  have y1 : ∀ b, Ow H s (σ.getD i none) b → Hn b = none := fun b h => if_pos h
  have y2 : ∀ b, ¬ Ow H s (σ.getD i none) b → Hn b = H b := fun b h => if_neg h
  have eh : Ex Hn H := fun b u h => by
    by_cases w : Ow H s (σ.getD i none) b
    · rw [y1 b w] at h; cases h
    · rw [y2 b w] at h; exact h
  have ez : Ex Hz Hn := fun b u h => by
    by_cases w : Ow H s (σ.getD i none) b
    · rw [(w.there (m.sl i s e)).1] at h; cases h
    · rw [y2 b w]; exact m.st.sub b u h
  have mf := m.forget i
  refine ⟨Hn, eh, ez, y1, ⟨fun b u h => ?_, m.st.exz, ez, fun b u h1 hk h2 => m.st.nk b u h1 hk h2⟩, mf.len, fun j t g => ?_, fun j t b g u => ?_, fun j k t u b g g' x y => mf.dj j k t u b g g' (x.fwd eh) (y.fwd eh)⟩
  · by_cases w : Ow H s (σ.getD i none) b
    · have := m.hz i s b e w; rw [h] at this; cases this
    · rw [y2 b w]; exact m.st.ex b u h
  · rcases set_cases g with ⟨rfl, hl, rfl⟩ | ⟨n, g⟩
    · trivial
    · refine (m.sl j t g).agree fun b u w hb => ?_
      rw [y2 b fun x => n (m.dj i j s t b e g x w)]
      exact hb
  · exact mf.hz j t b g (u.fwd eh)
/-- the promise of such a def -/
def spT (K : PySem.W.Frag) (A : Nat → Addr) (F : Sl → List D → Rs Sl) : Sp := fun vs H Q E => ∃ Hz Hn v0 vs' s0 ds, vs = v0 :: vs' ∧ Ex Hn H ∧ Ex Hz Hn ∧ RpAll K Hz vs' ds ∧ SlR K Hz H s0 (some v0) ∧ (∀ a, Ow H s0 (some v0) a → Hn a = none) ∧ PR A (fun c d _ H => E c d H) [] Hz Hn (PV K Hz Hn Q) (F s0 ds)
def fnT (n np : Nat) (g : Sg → Out) : Sl → List D → Rs Sl := fun s0 ds => if ds.length + 1 = np then (match g (s0 :: (ds.map Sl.sh ++ List.replicate (n - 1 - ds.length) .un)) with
  | .rt r => .ok r
  | _ => .no) else .no
theorem mt_startT {Hn : Hp} {v0 : V} {vs : List V} {s0 : Sl} {ds : List D} {n : Nat} (e : Ex Hn H) (ez : Ex Hz Hn) (r : RpAll K Hz vs ds) (r0 : SlR K Hz H s0 (some v0)) (ho : ∀ a, Ow H s0 (some v0) a → Hn a = none) : Mt K Hz Hn Hz H (s0 :: (ds.map Sl.sh ++ List.replicate (n - ds.length) .un)) (some v0 :: (vs.map some ++ List.replicate (n - vs.length) none)) := by
  have hl := r.length
  have key : ∀ i s a, (ds.map Sl.sh ++ List.replicate (n - ds.length) .un)[i]? = some s → ¬ Ow H s ((vs.map some ++ List.replicate (n - vs.length) none).getD i none) a := fun i s a h w => by
    have : s ∈ ds.map Sl.sh ++ List.replicate (n - ds.length) .un := List.mem_of_getElem? h
    rcases List.mem_append.mp this with q | q
    · obtain ⟨d, _, rfl⟩ := List.mem_map.mp q; exact w
    · rw [(List.mem_replicate.mp q).2] at w; exact w
  refine ⟨⟨e, .refl _, ez.trans e, fun _ _ _ _ h => h⟩, by simp [hl], fun i s h => ?_, fun i s a h w => ?_, fun i j s t a h g w x => ?_⟩
  · cases i with
    | zero => cases h; exact r0
    | succ i =>
      have h' : (ds.map Sl.sh ++ List.replicate (n - ds.length) .un)[i]? = some s := h
      show SlR K Hz H s ((vs.map some ++ List.replicate (n - vs.length) none).getD i none)
      by_cases hi : i < ds.length
      · rw [List.getElem?_append_left (by simpa using hi), List.getElem?_map, List.getElem?_eq_getElem hi] at h'
        cases h'
        obtain ⟨v, hv, rv⟩ := r.get (List.getElem?_eq_getElem hi)
        refine ⟨v, ?_, rv⟩
        rw [List.getD_eq_getElem?_getD, List.getElem?_append_left (by rw [List.length_map, hl]; exact hi), List.getElem?_map, hv]; rfl
      · rw [List.getElem?_append_right (by simpa using hi)] at h'
        obtain ⟨_, h'⟩ := List.getElem?_eq_some_iff.mp h'
        rw [List.getElem_replicate] at h'
        subst h'; trivial
  · cases i with
    | zero => cases h; exact ho a w
    | succ i => exact (key i s a h w).elim
  · cases i with
    | zero => cases j with
      | zero => rfl
      | succ j => exact (key j t a g x).elim
    | succ i => exact (key i s a h w).elim
end
theorem fn_okT {P : Program} {w : World} {K : PySem.W.Frag} {mg : Str → Option Value} {base : Heap} {A : Nat → Addr} {x qual : Str} {st : Stmt} {f : Addr} {fd : FuncData} {N ps : List Str} {k : Nat} {g : Sg → Out} (F : Fun K x qual st f fd) (S : FnScope N ps (defScope st)) (hN : 1 ≤ N.length)
    (hb : ∀ (cdv : Value) (A0 : Around) (outer : List Env) (s : Shared) (H : Hp) (E : XK), Room k (A0.deeper (envOfC qual (defScope st) s.heap.objs.size f cdv)) →
      SB (cxOf (L2.CX P w) P w K mg base N qual (defScope st) f cdv A0 outer s H E) A (fun c d _ H => E c d H) (defBody st) g) : FnOk P w K mg base (L2.CX P w) (k + 1) f fd ps (spT K A (fnT N.length ps.length g)) := by
  refine F.okX S (fun vs H Q E h => ?_) (fun cdv A0 outer s H vs Q E hr h => ?_)
  · obtain ⟨Hz, Hn, v0, vs', s0, ds, rfl, e, ez, r, r0, ho, q⟩ := h
    unfold fnT at q
    split at q
    · rename_i hl
      rw [List.length_cons, r.length, hl]
    · exact q.elim
  · obtain ⟨Hz, Hn, v0, vs', s0, ds, rfl, e, ez, r, r0, ho, q⟩ := h
    have hm := mt_startT (n := N.length - 1) e ez r r0 ho
    have e1 : L2.start N (v0 :: vs') = some v0 :: (vs'.map some ++ List.replicate (N.length - 1 - vs'.length) none) := by
      have e2 : N.length - (v0 :: vs').length = N.length - 1 - vs'.length := by rw [List.length_cons]; omega
      show (v0 :: vs').map some ++ List.replicate (N.length - (v0 :: vs').length) none = _
      rw [e2]; rfl
    refine ⟨_, hb cdv A0 outer s H E hr, Hz, Hn, Hz, _, by rw [e1]; exact hm, ?_⟩
    unfold fnT at q
    split at q
    · cases hg : g (s0 :: (ds.map Sl.sh ++ List.replicate (N.length - 1 - ds.length) .un)) with
      | rt r => rw [hg] at q; exact q
      | nx S' => rw [hg] at q; exact q.elim
      | ex c S' => rw [hg] at q; exact q.elim
      | bk S' => rw [hg] at q; exact q.elim
      | ct S' => rw [hg] at q; exact q.elim
      | no => rw [hg] at q; exact q.elim
    · exact q.elim
structure CalT (P : Program) (w : World) (K : PySem.W.Frag) (mg : Str → Option Value) (base : Heap) (A : Nat → Addr) (k : Nat) (x : Str) (ps : List Str) (F : Sl → List D → Rs Sl) : Prop where
  ex : ∃ f fd, FnOk P w K mg base (L2.CX P w) k f fd ps (spT K A F) ∧ mg x = some (.ref f) ∧ PySem.W.keepIn K (.ref f) = true ∧ Binds K fd ps []
theorem df_calT {P : Program} {w : World} {K : PySem.W.Frag} {mg : Str → Option Value} {base : Heap} {A : Nat → Addr} {x : Str} {st : Stmt} {N ps : List Str} {k : Nat} {g : Sg → Out} (d : Df K mg x st) (S : FnScope N ps (defScope st)) (hN : 1 ≤ N.length)
    (hbind : ∀ (kV doc pm : Value) (an : Option Addr) (cdv ct : Value) (us : List Value), us.length = ps.length → bindArgs (PySem.W.fnOf x x (defArgs st) (defBody st) (defScope st) .none kV doc pm an cdv ct) ⟨us, []⟩ = pure (ps.zip us))
    (hb : ∀ (f : Addr) (cdv : Value) (A0 : Around) (outer : List Env) (s : Shared) (H : Hp) (E : XK), Room k (A0.deeper (envOfC x (defScope st) s.heap.objs.size f cdv)) →
      SB (cxOf (L2.CX P w) P w K mg base N x (defScope st) f cdv A0 outer s H E) A (fun c d _ H => E c d H) (defBody st) g) : CalT P w K mg base A (k + 1) x ps (fnT N.length ps.length g) := by
  obtain ⟨f, fd, F, hm⟩ := d.ex
  exact ⟨f, fd, fn_okT F S hN (fun cdv A0 outer s H E hr => hb f cdv A0 outer s H E hr), hm, F.kp, F.binds hbind⟩
section
variable {X : Cx} {A : Nat → Addr} {W : WX} {e : Expr} {es : List Expr} {pos : Pos}
/-- x = f(x, e, ..): x's own thing goes in and comes back -/
def sCallT (i : Nat) (F : Sl → List D → Rs Sl) (fa : Sg → Rs (List D)) : Sg → Out := fun S => match S[i]? with
  | some (.o2 dss) => (fa S).thenO S fun ds => match F (.o2 dss) ds with
    | .ok r => .nx (S.set i r)
    | _ => .no
  | _ => .no
theorem sx_callT {kk i : Nat} {ps : List Str} {F : Sl → List D → Rs Sl} {x y : Str} {p p2 p3 : Pos} {fa : Sg → Rs (List D)} (c : CalT X.prog X.w X.K X.mg X.base A kk x ps F) (hr : Room kk X.A) (tk : Takes X W) (hN : X.N.Nodup) (hi : X.N[i]? = some y) (hl : Loc X.env.scope y) (hv : Vis X.env.scope y) (ha : EA X A W .st es fa)
    (hg : Gl X x := by rfl) (hd : (x == ("__debug__" : Str)) = false := by decide) (hdy : (y == ("__debug__" : Str)) = false := by decide) (hdc : (y == ("__classdict__" : Str)) = false := by decide) (he : starEach (.Name y p2 :: es) X.env = (false, eval (.Name y p2) X.env) :: starEach es X.env := by rfl) (hpl : (backTo pos (starEach es X.env)).any (·.1) = false := by rfl)
    {sp : Pos} (hs : swapsWith (.Call (.Name x p) (.Name y p2 :: es) [] pos) (some (.Name y p3)) sp.line X.env = pure false := by rfl) (hf : X.fn y = true ∨ X.env.scope.names.lookup y = some .local := by first | exact .inl rfl | exact .inr rfl | assumption) :
    SX X A W (.Assign [.Name y p3] (.Call (.Name x p) (.Name y p2 :: es) [] pos) sp) (sCallT i F fa) := by
  obtain ⟨f, fd, G, hm, hk, hb⟩ := c.ex
  refine PS.imp (ps_set hN hi hl (pe_callS G hr hg hm hk hb (fun σ => passAt tk σ) (pa_cons (pe_var hi hv hdy hdc) ha he) hd he hpl) hs hf) fun Dn σ H ⟨Z0, H0, Hz, S, m, q⟩ => ?_
  unfold sCallT at q
  split at q
  · rename_i dss e1
    obtain ⟨p0, as0, ev, _⟩ := m.sl i _ e1
    refine ⟨.ref p0, getD_some ev, Z0, H0, Hz, S, m, PO.bind m q fun ds q vs Hz1 H1 st1 rvs => ?_⟩
    have m1 := m.stp st1
    obtain ⟨Hn, eh, ez, hno, mt⟩ := m1.take e1
    have r0 := m1.sl i _ e1
    rw [ev] at hno r0
    refine ⟨Hz1, Hn, .ref p0, vs, .o2 dss, ds, rfl, eh, ez, KAll.all rvs, r0, hno, ?_⟩
    cases hF : F (.o2 dss) ds with
    | ok r =>
      rw [hF] at q
      intro v' Hz2 H2 st2 sr fr
      have m2 := mt.set_new (i := i) st2 sr fr
      rw [List.set_set] at m2
      exact q Hz2 H2 _ (st1.exz.trans st2.exz) m2
    | ex c => rw [hF] at q; exact q.elim
    | no => rw [hF] at q; exact q.elim
  · exact q.elim
end
end Sh

/-! ## Part P: insert, pop in lists of lists of the own; reading a slot as if it stood still -/
namespace Sh
open PySem PySem.Spec PyProof.Rows L2
section
variable {X : Cx} {A : Nat → Addr} {W : WX} {e : Expr} {pos : Pos}
/-- an expression over slot i frozen for its time; what comes is flat -/
def fThaw (i : Nat) (f : Sg → Rs Sl) : Sg → Rs Sl := fun S => match S[i]? with
  | some s => (match s.d? with
    | some d => (f (S.set i (.sh d))).bind flatS
    | none => .no)
  | none => .no
theorem ex_thaw {f : Sg → Rs Sl} (i : Nat) (h : EX X A W e f) : EX X A W e (fThaw i f) :=
  PE.imp h fun σ H Q ⟨Z0, H0, Hz, S, m, q⟩ => by
    unfold fThaw at q
    split at q
    · rename_i s e1
      split at q
      · rename_i d hd
        obtain ⟨Hy, ey, m', _⟩ := m.freeze e1 hd
        refine ⟨Z0, H0, Hy, _, m', ?_⟩
        have back : ∀ {Hz' H' : Hp}, Stp Hy H Hz' H' → Stp Hz H Hz H' := fun st => ⟨st.ex, .refl _, m.st.sub.trans st.ex, fun _ _ _ _ h => h⟩
        cases hf : f (S.set i (.sh d)) with
        | no => rw [hf] at q; exact q.elim
        | ex c => rw [hf] at q; exact fun Hz' H' st => q Hz H' (back st)
        | ok r =>
          rw [hf] at q
          intro v Hz' H' st sr fr
          cases r with
          | sh d' =>
            unfold flatS at q
            by_cases hs : scalD d' = true
            · simp only [Rs.bind, hs, if_true] at q
              obtain ⟨v', ev, rv⟩ := sr
              exact q v Hz H' (back st) ⟨v', ev, scal_rp hs rv⟩ fun a w => w.elim
            · simp only [Rs.bind, hs] at q
              exact q.elim
          | ow ds =>
            unfold flatS at q
            by_cases hs : ds.all scalD = true
            · simp only [Rs.bind, hs, if_true] at q
              obtain ⟨a, xs, ev, hx, hz, rx⟩ := sr
              refine q v Hz H' (back st) ⟨a, xs, ev, hx, ?_, scal_all hs rx⟩ fun b w => fr b w
              cases hza : Hz a with
              | none => rfl
              | some u =>
                have := st.exz a u (ey a u hza)
                rw [hz] at this; cases this
            · simp only [Rs.bind, hs] at q
              exact q.elim
          | un => exact q.elim
          | o2 _ => exact q.elim
          | od _ => exact q.elim
          | ot _ => exact q.elim
          | ol _ => exact q.elim
          | tl _ _ => exact q.elim
      · exact q.elim
    · exact q.elim
/-- data that is read now and is flat may be stored -/
def fFlat (f : Sg → Rs D) : Sg → Rs D := fun S => (f S).bind fun d => if scalD d = true then .ok d else .no
theorem es_flat {f : Sg → Rs D} (h : EK X A W .rd e f) : EK X A W .st e (fFlat f) :=
  PE.imp h fun σ H Q ⟨Z0, H0, Hz, S, m, q⟩ => by
    refine ⟨Z0, H0, Hz, S, m, PR.bind q fun d q v Hz' H' st rv => ?_⟩
    split at q
    · rename_i hs
      exact q v Hz' H' st (scal_rp hs rv)
    · exact q.elim
/-- x[k].insert(p, v) -/
def sInsAt (i : Nat) (fk fp fv : Sg → Rs D) : Sg → Out := fun S => match S[i]? with
  | some (.o2 dss) => (fk S).thenO S fun kd => match kd with
    | .int k => (match ixN dss.length k with
      | some j => (match dss[j]? with
        | some ds => (fp S).thenO S fun pd => (fv S).thenO S fun d => match pd with
          | .int p => if ds.length < LIM ∧ 0 ≤ p ∧ p ≤ LIM then .nx (S.set i (.o2 (dss.set j (ds.take p.toNat ++ [d] ++ ds.drop p.toNat)))) else .no
          | _ => .no
        | none => .no)
      | none => .no)
    | _ => .no
  | _ => .no
theorem o2_same {K : PySem.W.Frag} {Hz H Hz' H' : Hp} {p : Addr} {as as' : List Addr} {dss dss' : List (List D)} (o : O2 K Hz H p as dss) (o' : O2 K Hz' H' p as' dss') (e : Ex H H') : as' = as := refs_inj (by
  have h1 := e _ _ o.top
  rw [o'.top] at h1
  injection h1 with h1; injection h1 with h1)
theorem sx_insAt {i : Nat} {x : Str} {ke pe ve : Expr} {p2 p3 apos cpos : Pos} {fk fp fv : Sg → Rs D} (hi : X.N[i]? = some x) (hx : Vis X.env.scope x) (hk : EK X A W .rd ke fk) (hp : EK X A W .rd pe fp) (hv : EK X A W .st ve fv) (hsub : PlainIx ke) (hd : (x == ("__debug__" : Str)) = false := by decide) (hcd : (x == ("__classdict__" : Str)) = false := by decide)
    (hbase : attributeBase (.Subscript (.Name x p2) ke p3) "insert" X.env (eval (.Subscript (.Name x p2) ke p3) X.env) = eval (.Subscript (.Name x p2) ke p3) X.env := by rfl)
    (hfew : ((backTo cpos (starEach [pe, ve] X.env)).all (fun x => !x.1) && (backToKw cpos (keywordEach [] X.env)).all (fun x => x.1.isSome)
      && decide ([pe, ve].length + ([] : List Keyword).length + (if ([] : List Keyword).isEmpty then 0 else 1) < 30)) = true := by rfl)
    (hline : (apos.endLine == cpos.line) = true := by rfl) (hs : starEach [pe, ve] X.env = (false, eval pe X.env) :: starEach [ve] X.env := by rfl) (hs2 : starEach [ve] X.env = (false, eval ve X.env) :: starEach [] X.env := by rfl) (hplain : (backTo cpos (starEach [ve] X.env)).any (·.1) = false := by rfl)
    (hsw : swapsWith (.Call (.Attribute (.Subscript (.Name x p2) ke p3) "insert" apos) [pe, ve] [] cpos) none pos.line X.env = pure false := by rfl) :
    SX X A W (.Expr (.Call (.Attribute (.Subscript (.Name x p2) ke p3) "insert" apos) [pe, ve] [] cpos) pos) (sInsAt i fk fp fv) :=
  PS.imp (ps_expr (pe_bm PySem.F.plainAttrs_list PySem.F.slot_list_insert PySem.F.type_list_insert mt_insert (pe_ix ix_list (pe_var hi hx hd hcd) hk hsub) (pa_cons hp (pa_cons hv pa_nil hs2) hs) hbase hfew hline hs hplain) hsw) fun Dn σ H ⟨Z0, H0, Hz, S, m, q⟩ => by
    unfold sInsAt at q
    split at q
    · rename_i dss e1
      obtain ⟨p, as, ev, o2⟩ := m.sl i _ e1
      refine ⟨.ref p, getD_some ev, Z0, H0, Hz, S, m, PO.bind m q fun kd q vk Hz1 H1 st1 rk => ?_⟩
      split at q
      · rename_i k
        split at q
        · rename_i j hj
          split at q
          · rename_i ds hds
            have m1 := m.stp st1
            obtain ⟨p', as1, ev', o21⟩ := m1.sl i _ e1
            rw [ev] at ev'; cases ev'
            obtain ⟨a, xs, ha, hat, hax, ra, hza⟩ := o21.atI hj hds
            refine ⟨p, _, k, .ref a, rfl, Rp.int_inv rk, SqL.of o21.top, hat, .inl ⟨rfl, xs, SqL.of hax⟩, Z0, H0, Hz1, S, m1, PO.bind m1 (q.ez st1.exz) fun pd q vp Hz2 H2 st2 rp => ?_⟩
            have m2 := m1.stp st2
            refine ⟨Z0, H0, Hz2, S, m2, PO.bind m2 (q.ez st2.exz) fun d q v Hz3 H3 st3 rv => ?_⟩
            have m3 := m2.stp st3
            split at q
            · rename_i pp _
              split at q
              · rename_i hl
                obtain ⟨hl1, hl2, hl3⟩ := hl
                obtain ⟨p', as3, ev', o23⟩ := m3.sl i _ e1
                rw [ev] at ev'; cases ev'
                have eas := o2_same o21 o23 (st2.trans st3).ex
                subst eas
                have ra3 := ra.mono (st2.trans st3).exz
                have hax3 := (st2.trans st3).ex _ _ hax
                have hp3 : pp < 2 ^ 63 := by
                  have : (LIM : Int) < 2 ^ 63 := by unfold LIM; decide
                  omega
                refine ⟨a, xs, pp, v, rfl, ?_, hax3, ?_, hl2, hp3, q Hz3 _ σ st3.exz ?_⟩
                · rw [Rp.int_inv rp]
                · have := lim' (Nat.le_of_lt hl1)
                  rw [ra.length]; exact this
                · exact m3.o2 e1 ev o23 ha (((ra3.take _).append (.cons rv .nil)).append (ra3.drop _))
              · exact q.elim
            · exact q.elim
          · exact q.elim
        · exact q.elim
      · exact q.elim
    · exact q.elim
/-- x[k].pop() -/
def sPopAt (i : Nat) (fk : Sg → Rs D) : Sg → Out := fun S => match S[i]? with
  | some (.o2 dss) => (fk S).thenO S fun kd => match kd with
    | .int k => (match ixN dss.length k with
      | some j => (match dss[j]? with
        | some ds => if 0 < ds.length then .nx (S.set i (.o2 (dss.set j (ds.take (ds.length - 1))))) else .no
        | none => .no)
      | none => .no)
    | _ => .no
  | _ => .no
theorem sx_popAt {i : Nat} {x : Str} {ke : Expr} {p2 p3 apos cpos : Pos} {fk : Sg → Rs D} (hi : X.N[i]? = some x) (hx : Vis X.env.scope x) (hk : EK X A W .rd ke fk) (hsub : PlainIx ke) (hd : (x == ("__debug__" : Str)) = false := by decide) (hcd : (x == ("__classdict__" : Str)) = false := by decide)
    (hbase : attributeBase (.Subscript (.Name x p2) ke p3) "pop" X.env (eval (.Subscript (.Name x p2) ke p3) X.env) = eval (.Subscript (.Name x p2) ke p3) X.env := by rfl) (hline : (apos.endLine == cpos.line) = true := by rfl)
    (hsw : swapsWith (.Call (.Attribute (.Subscript (.Name x p2) ke p3) "pop" apos) [] [] cpos) none pos.line X.env = pure false := by rfl) :
    SX X A W (.Expr (.Call (.Attribute (.Subscript (.Name x p2) ke p3) "pop" apos) [] [] cpos) pos) (sPopAt i fk) :=
  PS.imp (ps_expr (pe_bm0 PySem.F.plainAttrs_list PySem.F.slot_list_pop PySem.F.type_list_pop mt_pop (pe_ix ix_list (pe_var hi hx hd hcd) hk hsub) hbase hline) hsw) fun Dn σ H ⟨Z0, H0, Hz, S, m, q⟩ => by
    unfold sPopAt at q
    split at q
    · rename_i dss e1
      obtain ⟨p, as, ev, o2⟩ := m.sl i _ e1
      refine ⟨.ref p, getD_some ev, Z0, H0, Hz, S, m, PO.bind m q fun kd q vk Hz1 H1 st1 rk => ?_⟩
      split at q
      · rename_i k
        split at q
        · rename_i j hj
          split at q
          · rename_i ds hds
            split at q
            · rename_i hl
              have m1 := m.stp st1
              obtain ⟨p', as1, ev', o21⟩ := m1.sl i _ e1
              rw [ev] at ev'; cases ev'
              obtain ⟨a, xs, ha, hat, hax, ra, hza⟩ := o21.atI hj hds
              have hlen := ra.length
              have hlt : xs.length - 1 < xs.length := by omega
              refine ⟨p, _, k, .ref a, rfl, Rp.int_inv rk, SqL.of o21.top, hat, .inl ⟨rfl, xs, SqL.of hax⟩, a, xs, xs[xs.length - 1], rfl, rfl, hax, List.getElem?_eq_getElem hlt, q Hz1 _ σ st1.exz ?_⟩
              rw [List.dropLast_eq_take]
              have := m1.o2 e1 ev o21 ha (ra.take (xs.length - 1))
              rw [hlen] at this ⊢
              exact this
            · exact q.elim
          · exact q.elim
        · exact q.elim
      · exact q.elim
    · exact q.elim
theorem paired_take {α β : Type} {F : α → β → Prop} : ∀ {l1 : List α} {l2 : List β} (n : Nat), Paired F l1 l2 → Paired F (l1.take n) (l2.take n)
  | _, _, 0, _ => .nil
  | _, _, _ + 1, .nil => .nil
  | _, _, n + 1, .cons h t => .cons h (paired_take n t)
theorem paired_drop {α β : Type} {F : α → β → Prop} : ∀ {l1 : List α} {l2 : List β} (n : Nat), Paired F l1 l2 → Paired F (l1.drop n) (l2.drop n)
  | _, _, 0, h => h
  | _, _, _ + 1, .nil => .nil
  | _, _, n + 1, .cons _ t => paired_drop n t
theorem paired_app {α β : Type} {F : α → β → Prop} : ∀ {l1 m1 : List α} {l2 m2 : List β}, Paired F l1 l2 → Paired F m1 m2 → Paired F (l1 ++ m1) (l2 ++ m2)
  | _, _, _, _, .nil, h => h
  | _, _, _, _, .cons h t, g => .cons h (paired_app t g)
/-- x.insert(k, a new list) -/
def sIns2 (i : Nat) (fk : Sg → Rs D) (fv : Sg → Rs Sl) : Sg → Out := fun S => match S[i]? with
  | some (.o2 dss) => (fk S).thenO S fun kd => (fv S).thenO S fun s => match kd with
    | .int k => (match s with
      | .ow d => if dss.length < LIM ∧ 0 ≤ k ∧ k ≤ LIM then .nx (S.set i (.o2 (dss.take k.toNat ++ [d] ++ dss.drop k.toNat))) else .no
      | _ => .no)
    | _ => .no
  | _ => .no
theorem sx_ins2 {i : Nat} {x : Str} {ke ve : Expr} {p2 apos cpos : Pos} {fk : Sg → Rs D} {fv : Sg → Rs Sl} (hi : X.N[i]? = some x) (hx : Vis X.env.scope x) (hk : EK X A W .rd ke fk) (hv : EX X A W ve fv) (hd : (x == ("__debug__" : Str)) = false := by decide) (hcd : (x == ("__classdict__" : Str)) = false := by decide)
    (hbase : attributeBase (.Name x p2) "insert" X.env (eval (.Name x p2) X.env) = eval (.Name x p2) X.env := by rfl)
    (hfew : ((backTo cpos (starEach [ke, ve] X.env)).all (fun x => !x.1) && (backToKw cpos (keywordEach [] X.env)).all (fun x => x.1.isSome)
      && decide ([ke, ve].length + ([] : List Keyword).length + (if ([] : List Keyword).isEmpty then 0 else 1) < 30)) = true := by rfl)
    (hline : (apos.endLine == cpos.line) = true := by rfl) (hs : starEach [ke, ve] X.env = (false, eval ke X.env) :: starEach [ve] X.env := by rfl) (hs2 : starEach [ve] X.env = (false, eval ve X.env) :: starEach [] X.env := by rfl) (hplain : (backTo cpos (starEach [ve] X.env)).any (·.1) = false := by rfl)
    (hsw : swapsWith (.Call (.Attribute (.Name x p2) "insert" apos) [ke, ve] [] cpos) none pos.line X.env = pure false := by rfl) :
    SX X A W (.Expr (.Call (.Attribute (.Name x p2) "insert" apos) [ke, ve] [] cpos) pos) (sIns2 i fk fv) :=
  PS.imp (ps_expr (pe_bm PySem.F.plainAttrs_list PySem.F.slot_list_insert PySem.F.type_list_insert mt_insert (pe_var hi hx hd hcd) (pa_cons hk (pa_cons hv pa_nil hs2) hs) hbase hfew hline hs hplain) hsw) fun Dn σ H ⟨Z0, H0, Hz, S, m, q⟩ => by
    unfold sIns2 at q
    split at q
    · rename_i dss e1
      obtain ⟨p, as, ev, o2⟩ := m.sl i _ e1
      refine ⟨.ref p, getD_some ev, .inl ⟨rfl, _, SqL.of o2.top⟩, Z0, H0, Hz, S, m, PO.bind m q fun kd q vk Hz1 H1 st1 rk => ?_⟩
      have m1 := m.stp st1
      refine ⟨Z0, H0, Hz1, S, m1, PO.bind m1 (q.ez st1.exz) fun s q w Hz2 H2 st2 sr fr => ?_⟩
      have m2 := m1.stp st2
      split at q
      · rename_i k _
        split at q
        · rename_i d
          split at q
          · rename_i hl
            obtain ⟨hl1, hl2, hl3⟩ := hl
            obtain ⟨p', as2, ev', o22⟩ := m2.sl i _ e1
            rw [ev] at ev'; cases ev'
            obtain ⟨a, xs, eva, ha, hza, ra⟩ := sr
            cases eva
            have na : H1 a = none := fr a rfl
            have hp1 := st1.ex _ _ o2.top
            have nea : a ≠ p := fun z => by rw [z, hp1] at na; cases na
            have eas := o2_same o2 o22 (st1.trans st2).ex
            subst eas
            have nas : a ∉ as2 := fun mm => by
              obtain ⟨_, _, _, xs', hx', _⟩ := paired_mem o2.inr a mm
              have := st1.ex _ _ hx'
              rw [na] at this; cases this
            have hk3 : k < 2 ^ 63 := by
              have : (LIM : Int) < 2 ^ 63 := by unfold LIM; decide
              omega
            have hperm : (as2.take k.toNat ++ [a] ++ as2.drop k.toNat).Perm (a :: as2) := by
              rw [List.append_assoc]
              have := List.perm_middle (a := a) (l₁ := as2.take k.toNat) (l₂ := as2.drop k.toNat)
              rw [List.take_append_drop] at this
              exact this
            refine ⟨p, as2.map V.ref, k, .ref a, rfl, ?_, o22.top, ?_, hl2, hk3, q Hz2 _ σ st2.exz ?_⟩
            · rw [Rp.int_inv rk]
            · rw [List.length_map, o22.inr.length]
              exact lim' (Nat.le_of_lt hl1)
            · refine m2.mut e1 (a := p) (.inl ev) ⟨p, as2.take k.toNat ++ [a] ++ as2.drop k.toNat, ev, by rw [upd_same]; simp [List.map_take, List.map_drop], ?_, ?_, o22.hz, ?_⟩ fun b w => ?_
              · rw [hperm.nodup_iff, List.nodup_cons]
                exact ⟨nas, o22.nd⟩
              · rw [hperm.mem_iff, List.mem_cons, not_or]
                exact ⟨nea.symm, o22.np⟩
              · have hin := o22.inr.other (ob := .lst ((as2.map V.ref).take k.toNat ++ [V.ref a] ++ (as2.map V.ref).drop k.toNat)) o22.np
                exact paired_app (paired_app (paired_take k.toNat hin) (.cons ⟨hza, xs, by rw [upd_ne nea]; exact ha, ra⟩ .nil)) (paired_drop k.toNat hin)
              · rcases w with w | ⟨p2', bs, w, hh, mm⟩
                · exact .inl (.inl w)
                · rw [ev] at w; cases w
                  rw [upd_same] at hh
                  injection hh with hh; injection hh with hh
                  have : as2.take k.toNat ++ [a] ++ as2.drop k.toNat = bs := refs_inj (by rw [← hh]; simp [List.map_take, List.map_drop])
                  subst this
                  rw [hperm.mem_iff, List.mem_cons] at mm
                  rcases mm with mm | mm
                  · subst mm
                    exact .inr ⟨m1.st.ex.none na, m1.noOw (Hz' := Hz1) na st2.ex⟩
                  · exact .inl (.inr ⟨p, as2, ev, o22.top, mm⟩)
          · exact q.elim
        · exact q.elim
      · exact q.elim
    · exact q.elim
/-- list(range(a, b)) -/
def fListRg2 (f g : Sg → Rs D) : Sg → Rs Sl := fun S => (f S).bind fun d => (g S).bind fun d' => match d, d' with
  | .int a, .int b => if (-1000 ≤ a ∧ a ≤ LIM) ∧ (-1000 ≤ b ∧ b ≤ LIM) then .ok (.ow ((List.range (b - a).toNat).map fun i : Nat => .int (a + (i : Int)))) else .no
  | _, _ => .no
theorem ex_listRg2 {e1 e2 : Expr} {p p2 q2 : Pos} {f g : Sg → Rs D} (hc : X.calm = true) (hg : Gl X "list") (hm : X.mg "list" = none) (hg2 : Gl X "range") (hm2 : X.mg "range" = none) (h1 : EK X A W .rd e1 f) (h2 : EK X A W .rd e2 g) (na : starEach [e1, e2] X.env = (false, eval e1 X.env) :: starEach [e2] X.env := by rfl) (nb : starEach [e2] X.env = (false, eval e2 X.env) :: starEach [] X.env := by rfl) (hpl : (backTo q2 (starEach [e2] X.env)).any (·.1) = false := by rfl)
    (na2 : starEach [.Call (.Name "range" p2) [e1, e2] [] q2] X.env = (false, eval (.Call (.Name "range" p2) [e1, e2] [] q2) X.env) :: starEach [] X.env := by rfl) : EX X A W (.Call (.Name "list" p) [.Call (.Name "range" p2) [e1, e2] [] q2] [] pos) (fListRg2 f g) :=
  PE.imp (pe_listRg hc hg hm (prg_2 hg2 hm2 h1 h2 na nb hpl) na2) fun σ H Q ⟨Z0, H0, Hz, S, m, q⟩ => by
    refine ⟨Z0, H0, Hz, S, m, PR.bind q fun d q v Hz' H' st rv => ?_⟩
    have m1 := m.stp st
    refine ⟨Z0, H0, Hz', S, m1, PR.stp (PR.bind q fun d' q => q) st fun d' q w Hz2 H2 st2 rw' => ?_⟩
    split at q
    · rename_i a b _
      split at q
      · rename_i hn
        have hn2 : a ≤ 10000 := hn.1.2
        have hn3 : b ≤ 10000 := hn.2.2
        refine ⟨a, b, Rp.int_inv rv, Rp.int_inv rw', ⟨by omega, by omega, by omega, by omega, by omega⟩, fun l hl => pv_ow (st.trans st2).sub (PV.stp q (st.trans st2)) hl ?_⟩
        have e1 : rgV a b = ((List.range (b - a).toNat).map fun i : Nat => a + (i : Int)).map V.int := by
          unfold rgV; rw [List.map_map]; rfl
        have e2 : ((List.range (b - a).toNat).map fun i : Nat => (PyData.int (a + (i : Int)) : D)) = ((List.range (b - a).toNat).map fun i : Nat => a + (i : Int)).map .int := by
          rw [List.map_map]; rfl
        rw [e1, e2]
        exact RpAll.ints _
      · exact q.elim
    · exact q.elim
end
end Sh
namespace Sh
open PySem PySem.Spec PyProof.Rows L2
section
variable {X : Cx} {A : Nat → Addr} {W : WX} {pos : Pos}
/-- [], to be a list of lists of the own -/
theorem ex_nil2 : EX X A W (.List [] pos) (fun _ => .ok (.o2 [])) := PE.imp (pe_lst pa_nil) fun σ H Q ⟨Z0, H0, Hz, S, m, q⟩ => by
  refine ⟨by decide, fun p hp => ?_⟩
  refine q (.ref p) Hz _ (.own m.st.sub hp) ⟨p, [], rfl, upd_same, List.nodup_nil, by simp, m.st.sub.none hp, .nil⟩ fun a w => ?_
  rcases w with w | ⟨p', as, w, hh, mm⟩
  · cases w; exact hp
  · cases w
    rw [upd_same] at hh
    injection hh with hh; injection hh with hh
    have : [] = as := refs_inj (by rw [← hh]; rfl)
    subst this
    cases mm
end
end Sh

/-! ## Part Q: dicts whose keys are tuples of whole numbers; tuples made of lists; max of a tuple -/
namespace Sh
open PySem PySem.Spec PyProof.Rows L2
theorem holdAll_ints {h : Heap} : ∀ {ns : List Int} {us : List Value}, Vals (ns.map V.int) us → PySem.W.HoldAll h us ns
  | [], _, .nil => PySem.W.HoldAll.nil
  | n :: ns, _, .cons r t => by
    obtain ⟨k, rfl⟩ := r
    exact PySem.W.HoldAll.cons (PySem.W.holds_int n k) (holdAll_ints t)
def maxI (n : Int) (ns : List Int) : Int := ns.foldl (fun a y => if a < y then y else a) n
theorem maxI_eq (n : Int) (ns : List Int) : PySem.W.maxOf n ns = maxI n ns := by
  unfold PySem.W.maxOf maxI
  induction ns generalizing n with
  | nil => rfl
  | cons y r ih =>
    rw [List.foldl_cons, List.foldl_cons]
    have e0 : PySem.W.DatumOrd.lt n y = decide (n < y) := rfl
    have e : (if PySem.W.DatumOrd.lt n y = true then y else n) = if n < y then y else n := by
      rw [e0]
      by_cases h : n < y <;> simp [h]
    rw [e]
    exact ih _
def rMaxT (K : PySem.W.Frag) : List V → Hp → VK → Prop := fun vs H Q => ∃ (a : Addr) (n : Int) (ns : List Int), vs = [V.ref a] ∧ SqT K H a ((n :: ns).map V.int) ∧ Q (.int (maxI n ns)) H
theorem crT_max {X : Cx} (hc : X.calm = true) (hu : X.A.units + 64 < cLine) : CallR X (.builtin "max") (rMaxT X.K) := by
  intro pins s σ H vs us Q I r h
  obtain ⟨a, n, ns, rfl, hs, q⟩ := h
  obtain ⟨its, rv, hl, _⟩ := I.tuple hs
  rw [Vals.ref1 r]
  refine PySem.W.max_tuple_datum (α := Int) (x := n) (xs := ns) (I.ok.hd hc) hl (by simpa using holdAll_ints rv) (by have : PySem.W.Datum.depth Int = 0 := rfl; omega) fun i v h' tk hi hv hk => ?_
  obtain ⟨as, hr⟩ := hv
  have hr : Reads h' v (.int (PySem.W.maxOf n ns)) as := hr
  cases hr
  exact ⟨.int _, H, I.kept hk, ⟨_, by rw [maxI_eq]⟩, q⟩
def rMaxU (K : PySem.W.Frag) : List V → Hp → VK → Prop := fun vs H Q => rMax K vs H Q ∨ rMaxT K vs H Q
theorem call_maxU {X : Cx} (hc : X.calm = true) (hu : X.A.units + 64 < cLine) : CallR X (.builtin "max") (rMaxU X.K) := .or (cr_max hc) (crT_max hc hu)
def oMaxU : List D → Rs Sl
  | [.tuple ds] => match ints? ds with
    | some (n :: ns) => okI (maxI n ns)
    | _ => .no
  | x => oMax x
theorem n_maxU (x : List D) : NoEx (oMaxU x) := by
  unfold oMaxU
  split
  · split
    · exact ne_of_eq
    · exact ne_no
  · exact n_max _
theorem k_maxU {K : PySem.W.Frag} : CaOk .rd K (rMaxU K) oMaxU := fun Hz H xs ds Q e h q => by
  unfold oMaxU at q
  split at q
  · split at q
    · rename_i n ns hn
      have := ints_eq hn
      subst this
      obtain ⟨x, rfl, r⟩ := paired1 h
      obtain ⟨p, ys, rfl, hp, rp⟩ := Rp.tup_inv r
      have := rp.ints_inv (ns := n :: ns)
      subst this
      exact .inr ⟨p, n, ns, rfl, SqT.of hp, pv_int e q⟩
    · exact q.elim
  · exact .inl (k_max Hz H xs _ Q e h q)
section
variable {X : Cx} {A : Nat → Addr} {W : WX} {e : Expr} {pos : Pos}
/-- tuple(a list) -/
def fTuple (f : Sg → Rs D) : Sg → Rs Sl := fun S => (f S).bind fun d => match d with
  | .list ds => .ok (.sh (.tuple ds))
  | _ => .no
theorem ex_tuple {p : Pos} {f : Sg → Rs D} (hg : Gl X "tuple") (hm : X.mg "tuple" = none) (he : EK X A W .cn e f) (na : starEach [e] X.env = (false, eval e X.env) :: starEach [] X.env := by rfl) :
    EX X A W (.Call (.Name "tuple" p) [e] [] pos) (fTuple f) :=
  PE.imp (pe_tupleOf hg hm he na) fun σ H Q ⟨Z0, H0, Hz, S, m, q⟩ => by
    refine ⟨Z0, H0, Hz, S, m, PR.bind q fun d q v Hz' H' st rv => ?_⟩
    split at q
    · rename_i ds
      obtain ⟨a, xs, rfl, hx, r⟩ := Cn.lst_inv rv st.sub
      refine .inl ⟨a, xs, rfl, SqL.of hx, fun b hb => ?_⟩
      have s2 := Stp.frz (o := .tup xs) st.sub hb
      exact PV.stp q st _ _ _ s2 ⟨_, rfl, .tup upd_same (r.mono s2.exz)⟩ fun _ w => w.elim
    · exact q.elim
/-- tuple(range(n)) -/
def fTupRg (f : Sg → Rs D) : Sg → Rs Sl := fun S => (f S).bind fun d => match d with
  | .int n => if -1000 ≤ n ∧ n ≤ LIM then .ok (.sh (.tuple ((List.range n.toNat).map fun i : Nat => .int (i : Int)))) else .no
  | _ => .no
theorem ex_tupRg {p p2 q2 : Pos} {f : Sg → Rs D} (hc : X.calm = true) (hg : Gl X "tuple") (hm : X.mg "tuple" = none) (hg2 : Gl X "range") (hm2 : X.mg "range" = none) (he : EK X A W .rd e f) (na : starEach [e] X.env = (false, eval e X.env) :: starEach [] X.env := by rfl)
    (na2 : starEach [.Call (.Name "range" p2) [e] [] q2] X.env = (false, eval (.Call (.Name "range" p2) [e] [] q2) X.env) :: starEach [] X.env := by rfl) : EX X A W (.Call (.Name "tuple" p) [.Call (.Name "range" p2) [e] [] q2] [] pos) (fTupRg f) :=
  PE.imp (pe_tupRg hc hg hm (prg_1 hg2 hm2 he na) na2) fun σ H Q ⟨Z0, H0, Hz, S, m, q⟩ => by
    refine ⟨Z0, H0, Hz, S, m, PR.bind q fun d q v Hz' H' st rv => ?_⟩
    split at q
    · rename_i n
      split at q
      · rename_i hn
        have hn2 : n ≤ 10000 := hn.2
        refine ⟨n, Rp.int_inv rv, ⟨by omega, by omega, by omega, by omega, by omega⟩, fun b hb => ?_⟩
        have s2 := Stp.frz (o := .tup (rgV 0 n)) st.sub hb
        exact PV.stp q st _ _ _ s2 ⟨_, rfl, .tup upd_same (rgV_rp n)⟩ fun _ w => w.elim
      · exact q.elim
    · exact q.elim
/-- {t: v}, t a tuple -/
def tDispT1 (tk tv : TE) : TE := fun σ H Q => ∀ p, H p = none → tPairs [(tk, tv)] σ (upd H p (.dT [])) fun ps H2 => H2 p = some (.dT []) ∧ ∃ (b : Addr) (k : List Key) (y : V), ps = [(.ref b, y)] ∧ H2 b = some (.tup (k.map kV)) ∧ Q (.ref p) (upd H2 p (.dT [(k, y)]))
theorem pe_dispT1 {k v : Expr} {tk tv : TE} (hu : X.A.units + 1 < cLine) (hk : PE X k tk) (hv : PE X v tv) : PE X (.Dict [some k] [v] pos) (tDispT1 tk tv) := by
  refine ⟨fun pins s σ H Q I q => ?_⟩
  have hn := I.hok.fresh (Nat.le_refl s.heap.objs.size)
  have I1 := I.laid (a := s.heap.objs.size) (o := .dT []) (h' := s.heap.push { cls := .type "dict", data := .dict #[] }) (t' := s.toks) (fun _ _ q => Heap.get?_push_of_some _ q) (Nat.le_refl _) (dt_empty s.heap I.big)
  refine wpAny_Dict_any rfl rfl (by simp) (by simp) (thn ((pps_cons hk hv pps_nil).run pins _ σ _ _ I1 (q _ hn)) fun ws s2 ⟨ps, H2, I2, rel, e, b, kk, y, ep, eb, q2⟩ => ?_)
  subst ep
  cases rel with
  | @cons p0 w0 ps0 ws0 h t =>
    cases t
    obtain ⟨u, w2⟩ := w0
    obtain ⟨h1, h2⟩ := h
    cases (show u = Value.ref b from h1)
    unfold storeAll
    rw [List.forIn_cons]
    refine wpAny_bind (wpAny_bind ?_)
    obtain ⟨z, hd, xs, rl, dd⟩ := dt_of I2.hok e
    have hz : xs.length ≤ sizeLine := by rw [← Paired.length rl]; exact z
    refine wpAny_dictSet_heap (knd := tupleKind (mixKind X.prog X.w)) (show X.A.units < cLine by omega) (key_of I2.hok eb) dd (fun h' dd' hs => ?_) hz
    refine wpAny_pure ?_
    show wpAny _ _ (pure PUnit.unit) _ _ _
    refine wpAny_pure ⟨.ref s.heap.objs.size, upd H2 s.heap.objs.size (.dT [(kk, y)]), ?_, rfl, q2⟩
    obtain ⟨q, es, ep, hq, i2, i3, i4, _, i5⟩ := dd'
    have hl : (putK ([] : List (List Key × V)) kk y).length ≤ sizeLine := by have := length_putK ([] : List (List Key × V)) kk y; rw [sizeLine_eq]; simp at this; omega
    refine d_write (ob := .dT (putK [] kk y)) I2 (by rw [e]; exact True.intro) hs ⟨q, hq⟩ ⟨hl, hd, _, (rl.put kk eb h2).keeps fun c ys ec => ?_, q, es, ep, hq, i2, i3, i4, i5⟩
    rw [upd_ne (ne_of ec e (fun z => nomatch z))]
    exact ec
def fDisp1T (fk fv : Sg → Rs D) : Sg → Rs Sl := fun S => (fk S).bind fun d => (fv S).bind fun v => match keyT d with
  | some k => .ok (.ot [(k, v)])
  | none => .no
theorem ex_dispT1 {ke ve : Expr} {fk fv : Sg → Rs D} (hu : X.A.units + 1 < cLine) (hk : EK X A W .st ke fk) (hv : EK X A W .st ve fv) : EX X A W (.Dict [some ke] [ve] pos) (fDisp1T fk fv) :=
  PE.imp (pe_dispT1 hu hk hv) fun σ H Q ⟨Z0, H0, Hz, S, m, q⟩ => fun p hp => by
    have st0 : Stp Hz H Hz (upd H p (.dT [])) := Stp.own m.st.sub hp
    have m0 := m.stp st0
    refine ⟨Z0, H0, Hz, S, m0, PR.stp (PR.bind q fun d q => q) st0 fun d q v Hz1 H1 st1 rv => ?_⟩
    have m1 := m0.stp st1
    refine ⟨Z0, H0, Hz1, S, m1, PR.stp (PR.bind q fun s q => q) (st0.trans st1) fun dv q w Hz2 H2 st2 rw' => ?_⟩
    split at q
    · rename_i kk hkk
      obtain ⟨b, eb, hb⟩ := keyT_rp hkk rv
      have hp1 : H1 p = some (.dT []) := st1.ex _ _ upd_same
      have hp2 : H2 p = some (.dT []) := st2.ex _ _ hp1
      have zp : Hz2 p = none := st2.nw _ _ hp1 (st1.nw _ _ upd_same (m.st.sub.none hp))
      show H2 p = some (.dT []) ∧ ∃ (b : Addr) (k : List Key) (y : V), [(v, w)] = [(V.ref b, y)] ∧ H2 b = some (.tup (k.map kV)) ∧ Q (.ref p) (upd H2 p (.dT [(k, y)]))
      refine ⟨hp2, b, kk, w, by rw [eb], st2.ex _ _ (st1.sub _ _ hb), ?_⟩
      have st3 : Stp Hz H Hz2 H2 := (st0.trans st1).trans st2
      have st4 : Stp Hz H Hz2 (upd H2 p (.dT [(kk, w)])) := ⟨st3.ex.mut hp, st3.exz, st3.sub.mut zp, st3.nk⟩
      exact q (.ref p) Hz2 _ st4 ⟨p, [(kk, w)], rfl, upd_same, zp, .cons ⟨rfl, rw'⟩ .nil⟩ fun a w => by
        have w' : some (V.ref p) = some (.ref a) := w
        cases w'; exact hp
    · exact q.elim
/-- d.get(k, x) -/
def fDGet2 (i : Nat) (fk fz : Sg → Rs D) : Sg → Rs D := fun S => match S[i]? with
  | some (.od kvs) => (fk S).bind fun d => (fz S).bind fun z => match keyK d with
    | some k => .ok ((valD kvs k).getD z)
    | none => .no
  | some (.ot kvs) => (fk S).bind fun d => (fz S).bind fun z => match keyT d with
    | some k => .ok ((valD kvs k).getD z)
    | none => .no
  | _ => .no
theorem val_getD {K : PySem.W.Frag} {H : Hp} {κ : Type} [DecidableEq κ] {ws : List (κ × V)} {kvs : List (κ × D)} {kk : κ} {w : V} {z : D} (r : DcR K H ws kvs) (rw' : Rp K H w z) : Rp K H ((valV ws kk).getD w) ((valD kvs kk).getD z) := by
  obtain ⟨h1, h2⟩ := r.val kk
  cases hd : valD kvs kk with
  | some d =>
    obtain ⟨v, hv, rv⟩ := h2 d hd
    rw [hv]; exact rv
  | none =>
    rw [hd] at h1
    cases hv : valV ws kk with
    | none => exact rw'
    | some v => rw [hv] at h1; cases h1
theorem et_dget2 {i : Nat} {x : Str} {p2 apos cpos : Pos} {e f : Expr} {fk fz : Sg → Rs D} (hu : X.A.units + 1 < cLine) (hi : X.N[i]? = some x) (hx : Vis X.env.scope x) (hk : EK X A W .rd e fk) (hf : EK X A W .st f fz) (hm : M2 X (.Name x p2) "get" apos e f cpos)
    (hd : (x == ("__debug__" : Str)) = false := by decide) (hcd : (x == ("__classdict__" : Str)) = false := by decide) : EK X A W .st (.Call (.Attribute (.Name x p2) "get" apos) [e, f] [] cpos) (fDGet2 i fk fz) :=
  PE.imp (pe_dget2 hu (pe_var hi hx hd hcd) hk hf hm) fun σ H Q ⟨Z0, H0, Hz, S, m, q⟩ => by
    unfold fDGet2 at q
    split at q
    · rename_i kvs e1
      obtain ⟨p, ws, ev, hp, hz, r⟩ := m.sl i _ e1
      refine ⟨.ref p, getD_some ev, p, rfl, .inl ⟨ws, Rd.of hp⟩, Z0, H0, Hz, S, m, PR.bind q fun d q v Hz1 H1 st1 rv => ?_⟩
      have m1 := m.stp st1
      refine ⟨Z0, H0, Hz1, S, m1, PR.stp (PR.bind q fun z q => q) st1 fun z q w Hz2 H2 st2 rw' => ?_⟩
      split at q
      · rename_i kk hkk
        refine ⟨valV ws kk, ?_, q _ Hz2 H2 (st1.trans st2) (val_getD (r.mono (st1.trans st2).exz) rw')⟩
        rw [keyK_rp hkk rv]
        exact DGet.k ((st1.trans st2).ex _ _ hp)
      · exact q.elim
    · rename_i kvs e1
      obtain ⟨p, ws, ev, hp, hz, r⟩ := m.sl i _ e1
      refine ⟨.ref p, getD_some ev, p, rfl, .inr ⟨ws, Rd.of hp⟩, Z0, H0, Hz, S, m, PR.bind q fun d q v Hz1 H1 st1 rv => ?_⟩
      have m1 := m.stp st1
      refine ⟨Z0, H0, Hz1, S, m1, PR.stp (PR.bind q fun z q => q) st1 fun z q w Hz2 H2 st2 rw' => ?_⟩
      split at q
      · rename_i kk hkk
        obtain ⟨b, rfl, hb⟩ := keyT_rp hkk rv
        exact ⟨valV ws kk, DGet.t ((st1.trans st2).ex _ _ hp) (st2.ex _ _ hb), q _ Hz2 H2 (st1.trans st2) (val_getD (r.mono (st1.trans st2).exz) rw')⟩
      · exact q.elim
    · exact q.elim
/-- list(d), d's keys tuples -/
def keyD : Key → D
  | .inl i => .int i
  | .inr x => .str x
theorem keyD_rp {K : PySem.W.Frag} {H : Hp} : ∀ k : List Key, RpAll K H (k.map kV) (k.map keyD)
  | [] => .nil
  | .inl i :: r => .cons (.int i) (keyD_rp r)
  | .inr x :: r => .cons (.str x) (keyD_rp r)
theorem keys_frz {K : PySem.W.Frag} {Hz H Hk : Hp} : ∀ {ws : List (List Key × V)} {bs : List Addr} {kvs : List (List Key × D)}, IsKeys H ws bs → DcR K Hk ws kvs → Ex Hz H → ∃ Hz', Stp Hz H Hz' H ∧ RpAll K Hz' (bs.map V.ref) (kvs.map fun kv => PyData.tuple (kv.1.map keyD))
  | [], [], [], .nil, .nil, ez => ⟨Hz, .refl ez, .nil⟩
  | (k, v) :: ws, b :: bs, (k', d) :: kvs, .cons h t, .cons r u, ez => by
    obtain ⟨Hz', st, rr⟩ := keys_frz t u ez
    have e : k = k' := r.1
    subst e
    have s2 := Stp.frzT (k := k) st.sub h
    exact ⟨_, st.trans s2, .cons (.tup upd_same (keyD_rp k)) (rr.mono s2.exz)⟩
def fDKeys (i : Nat) : Sg → Rs Sl := fun S => match S[i]? with
  | some (.ot kvs) => .ok (.ow (kvs.map fun kv => .tuple (kv.1.map keyD)))
  | _ => .no
theorem ex_dkeys {i : Nat} {x : Str} {p p2 : Pos} (hc : X.calm = true) (hg : Gl X "list") (hm : X.mg "list" = none) (hi : X.N[i]? = some x) (hx : Vis X.env.scope x) (hd : (x == ("__debug__" : Str)) = false := by decide) (hcd : (x == ("__classdict__" : Str)) = false := by decide)
    (he : starEach (.Name x p2 :: []) X.env = (false, eval (.Name x p2) X.env) :: starEach [] X.env := by rfl) (hpl : (backTo pos (starEach [] X.env)).any (·.1) = false := by rfl) : EX X A W (.Call (.Name "list" p) [.Name x p2] [] pos) (fDKeys i) :=
  PE.imp (pe_callTy (call_list_dT hc) hg hm boot_list (pa_cons (pe_var hi hx hd hcd) pa_nil he) (by decide) (by decide) he hpl) fun σ H Q ⟨Z0, H0, Hz, S, m, q⟩ => by
    unfold fDKeys at q
    split at q
    · rename_i kvs e1
      obtain ⟨p, ws, ev, hp, hz, r⟩ := m.sl i _ e1
      refine ⟨.ref p, getD_some ev, p, ws, rfl, Rd.of hp, fun l bs hl hk => ?_⟩
      obtain ⟨Hz', st, rr⟩ := keys_frz hk r m.st.sub
      have st2 : Stp Hz' H Hz' (upd H l (.lst (bs.map V.ref))) := Stp.own st.sub hl
      exact q (.ref l) Hz' _ (st.trans st2) ⟨l, _, rfl, upd_same, st.sub.none hl, rr⟩ fun a w => by
        have w' : some (V.ref l) = some (.ref a) := w
        cases w'; exact hl
    · exact q.elim
/-- x = y, y's own dict with tuples for keys -/
def sMoveT (i j : Nat) : Sg → Out := fun S => match S[j]? with
  | some (.ot kvs) => .nx ((S.set j .un).set i (.ot kvs))
  | _ => .no
theorem sx_moveT {i j : Nat} {x y : Str} {pos' p2 : Pos} (hN : X.N.Nodup) (hi : X.N[i]? = some x) (hx : Loc X.env.scope x) (hj : X.N[j]? = some y) (hy : Vis X.env.scope y) (hs : swapsWith (.Name y p2) (some (.Name x pos')) pos.line X.env = pure false := by rfl)
    (hf : X.fn x = true ∨ X.env.scope.names.lookup x = some .local := by first | exact .inl rfl | exact .inr rfl | assumption) (hd : (y == ("__debug__" : Str)) = false := by decide) (hcd : (y == ("__classdict__" : Str)) = false := by decide) : SX X A W (.Assign [.Name x pos'] (.Name y p2) pos) (sMoveT i j) :=
  PS.imp (ps_set hN hi hx (pe_var hj hy hd hcd) hs hf) fun Dn σ H ⟨Z0, H0, Hz, S, m, q⟩ => by
    unfold sMoveT at q
    split at q
    · rename_i kvs e
      obtain ⟨p, ws, ev, _⟩ := m.sl j _ e
      refine ⟨.ref p, getD_some ev, q Hz H _ (.refl _) ?_⟩
      have mf := m.forget j
      have sr : SlR X.K Hz H (.ot kvs) (some (.ref p)) := by rw [← ev]; exact m.sl j _ e
      refine ⟨m.st, by rw [List.length_set, List.length_set]; exact mf.len, fun k t g => ?_, fun k t a g w => ?_, fun k l t u a g g' w w' => ?_⟩
      · rcases set_cases g with ⟨rfl, hl, rfl⟩ | ⟨n, g2⟩
        · rw [getD_set (by rw [mf.len]; exact hl)]; exact sr
        · rw [getD_set_ne n]; exact mf.sl k t g2
      · rcases set_cases g with ⟨rfl, hl, rfl⟩ | ⟨n, g2⟩
        · rw [getD_set (by rw [mf.len]; exact hl)] at w; exact m.hz j _ a e (by rw [ev]; exact w)
        · rw [getD_set_ne n] at w; exact mf.hz k t a g2 w
      · have other : ∀ k t, (S.set j .un)[k]? = some t → Ow H t (σ.getD k none) a → Ow H (.ot kvs) (some (.ref p)) a → False := fun k t g w w' => by
          rcases set_cases g with ⟨rfl, hl, rfl⟩ | ⟨n, g2⟩
          · exact w
          · exact n (m.dj j k _ t a e g2 (by rw [ev]; exact w') w)
        rcases set_cases g with ⟨rfl, hl, rfl⟩ | ⟨n, h1⟩
        · rw [getD_set (by rw [mf.len]; exact hl)] at w
          rcases set_cases g' with ⟨rfl, _, rfl⟩ | ⟨n', h2⟩
          · rfl
          · rw [getD_set_ne n'] at w'; exact (other l u h2 w' w).elim
        · rw [getD_set_ne n] at w
          rcases set_cases g' with ⟨rfl, hl, rfl⟩ | ⟨n', h2⟩
          · rw [getD_set (by rw [mf.len]; exact hl)] at w'; exact (other k t h1 w w').elim
          · rw [getD_set_ne n'] at w'; exact mf.dj k l t u a h1 h2 w w'
    · exact q.elim
end
end Sh

/-! ## Part R: a comprehension whose element may raise; a try whose suite raises -/
namespace Sh
open PySem PySem.Spec PyProof.Rows L2
/-- a block's context that lets exceptions out -/
abbrev blkE (X : Cx) (s : Shared) (H : Hp) (scope : Scope) (ce : Env) (fp : List Addr) : Cx :=
  { X.blk s H scope ce fp with xe := fun u s' => notedBy (model X.prog X.w) X.A ce (CompFails (model X.prog X.w) X.A X.xe ce) u s' }
section
variable {X : Cx} {A : Nat → Addr} {W : WX} {pins : List (Addr × Obj)} {σ : L2.St} {H H3 : Hp} {s s3 : Shared} {scope : Scope} {ce : Env} {fp : List Addr}
theorem inv_unwish {s0 : Shared} {H0 : Hp} {pq : List (Addr × Obj)} {σb : L2.St} {Hb : Hp} {sb : Shared} (J : Inv (X.blk s0 H0 scope ce fp) pq σb Hb sb) : Inv (blkE X s0 H0 scope ce fp) pq σb Hb sb := J.wish _
theorem inv_towish {s0 : Shared} {H0 : Hp} {pq : List (Addr × Obj)} {σb : L2.St} {Hb : Hp} {sb : Shared} (J : Inv (blkE X s0 H0 scope ce fp) pq σb Hb sb) : Inv (X.blk s0 H0 scope ce fp) pq σb Hb sb := Inv.wish (X := blkE X s0 H0 scope ce fp) J fun _ _ => False
/-- an exception of a callee in the block's element goes through the block -/
theorem passE (hst : X.stack = X.env :: X.outer) (hfr : X.env.frame = some X.env.locals) (tk : L2.Takes X W) (J3 : Inv X pins σ H3 s3) (hce : ce.frame = X.env.frame) (hC : ce.locals = s3.heap.objs.size) (hfp : ∀ b ∈ fp, FpOk X pins H3 b) (σb : L2.St) :
    PassesAt (L2.CX X.prog X.w) (blkE X s3 H3 scope ce fp) σb (WE (fun cls d _ H' => W cls d σ H') σb) := by
  intro pq Hb u sb s' Ib cx
  obtain ⟨a, B, sI, pr, σr, H', cls, d, eu, Ir, nb, up, sky, na, os, ag, w⟩ := XE.of_call (W := fun cls d _ H' => W cls d σ H') Ib (fun _ _ _ h => h) cx
  obtain ⟨a2, B2, H2, cls2, d2, e2, fl2, _⟩ := cx
  subst eu
  cases e2
  have fly : HandSPX.FlyingZ B X.stack a (Zc cls d) s'.heap := by
    obtain ⟨_, _, _, oe2, vs2, T2, oT2, ts2, he2, _, hd2, h12, _, _, hT2, hdT2, h32⟩ := fl2
    rcases sky with ⟨_, _, _, oe, vs, he, _, hd, h1⟩ | f | ⟨_, _, _, oe, vs, T, oT, ts, he, _, hd, h1, _, _, hT, hdT, h3⟩
    · rw [he2] at he; cases he
      rw [hd2] at hd; cases hd
      rw [h12] at h1; cases h1
    · exact f
    · rw [he2] at he; cases he
      rw [hd2] at hd; cases hd
      rw [h12] at h1; cases h1
      rw [hT2] at hT; cases hT
      rw [hdT2] at hdT; cases hdT
      rw [h32] at h3
      injection h3 with h3
      cases h3
  have nC : H' ce.locals = none := Ir.free
  rw [hC] at nC
  have Iq : Inv X pins σ H' sI := J3.call' (ch := fp) Ir.os Ir.base Ir.hok Ir.bare fun b hb => ⟨(hfp b hb).2.2.2.1, (hfp b hb).2.1, (hfp b hb).2.2.2.2.1, (hfp b hb).2.2.2.2.2⟩
  obtain ⟨q0, q1, q2, q3, q4, q5⟩ := J3.fpOk (Nat.le_refl _) nC
  have Iz : Inv X pins σ H' { sI with heap := PySem.W.hideAll sI.heap [s3.heap.objs.size], toks := sI.toks } := Iq.turned (t' := sI.toks) (it := s3.heap.objs.size) (fun b o hb e => PySem.W.hideAll_get _ e (by simpa using hb)) q0 q1 q3 q4 q5
  obtain ⟨mc, hmc, _⟩ := Ir.loc
  have hmc : sI.heap.Ns ce.locals mc := hmc
  rw [hC] at hmc
  generalize hCC : s3.heap.objs.size = C at *
  have hz : ∀ {b : Addr} {o : Obj}, (PySem.W.hideAll B [C]).get? b = some o → B.get? b = some o ∧ b ≠ C := fun {b o} e => ⟨PySem.W.of_hideAll _ e, fun z => by
    rw [PySem.W.hideAll_none [C] (by simp [z])] at e; cases e⟩
  have hzn : ∀ {b : Addr}, B.get? b = none → (PySem.W.hideAll B [C]).get? b = none := fun {b} e => by
    cases q : (PySem.W.hideAll B [C]).get? b with
    | none => rfl
    | some o => rw [(hz q).1] at e; cases e
  have fly2 : HandSPX.FlyingZ (PySem.W.hideAll B [C]) X.stack a (Zc cls d) s'.heap := by
    obtain ⟨f1, f2, f3, oe, vs, T, oT, ts, he, hzz, hd, h1, hnT, r⟩ := fly
    refine ⟨fun b o e => f1 b o (hz e).1, hzn f2, funFrames_none f3 fun L hL => hzn ?_, oe, vs, T, oT, ts, he, hzz, hd, h1, hzn hnT, r⟩
    exact (Heap.FunFrames.mem f3 hL).1
  have hfrm : X.A.frames = some (X.env :: X.outer) := by
    have z : X.A.frames = some X.stack := Ib.ok.frames
    rw [z, hst]
  rw [hst] at fly2
  show wpAny (model X.prog X.w) X.A (noteFrame (.ref a) ce) _ _ s'
  rw [noteFrame_env _ hce]
  refine HandSPX.looks_onZ Zc.steady hfrm hfr fly2 fun h1 hh1 up1 => ?_
  have hn1 : h1.Ns C mc := up1.ns (up.ns hmc)
  refine ⟨mc, by rw [hC]; exact hn1, fun h2 m2 hn2 sb2 => ?_⟩
  rw [hC] at hn2 sb2
  have hh2 : HandSPX.HeldZ (PySem.W.hideAll B [C]) (X.env :: X.outer) a (Zc cls d) X.env.locals h2 := by
    obtain ⟨f1, f2, f3, oe, vs, T, oT, ts, he, hzz, hd, h1', hnT, hTe, hT, hdT, h3⟩ := hh1
    obtain ⟨oL, es, ep, hoL, hdL, _⟩ := hn1
    have nea : a ≠ C := fun z => by
      rw [z, hoL] at he; cases he
      rw [hdL] at hd; cases hd
    have neT : T ≠ C := fun z => by
      rw [z, hoL] at hT; cases hT
      rw [hdL] at hdT; cases hdT
    exact ⟨fun b o e => (sb2.2 b (hz e).2).trans (f1 b o e), f2, Heap.FunFrames.sameBut sb2 hn2 f3, oe, vs, T, oT, ts, (sb2.2 a nea).trans he, hzz, hd, h1', hnT, hTe, (sb2.2 T neT).trans hT, hdT, h3⟩
  have hh2' := hh2
  obtain ⟨_, _, _, oe, vs, T, oT, ts, he, hzz, hd, h1', _⟩ := hh2'
  unfold PySem.passOn
  refine wpAny_bind (wpAny_field he hd h1' ?_)
  rw [if_neg (show ¬ ((Value.ref T == Value.none) = true) from by simp), hce, hfr]
  have fin : wpAny (model X.prog X.w) X.A (setFlight (.ref a) (some X.env.locals)) (fun _ s4 => wpAny (model X.prog X.w) X.A (throw (.ref a) : Sem Value) (fun _ _ => False) X.xe s4) X.xe { s' with heap := h2 } := by
    refine HandSPX.setFlight_onZ hh2 fun h4 hh4 up4 => wpAny_throw (tk _ _ ?_)
    refine ⟨a, PySem.W.hideAll B [C], _, pins, σ, H', cls, d, rfl, Iz, fun b o e hb => ?_, fun b o e hnf => ?_, .inr (.inr (by rw [hst]; exact hh4)), na, os, ag, w⟩
    · have e' : (PySem.W.hideAll sI.heap [C]).get? b = some o := e
      have nbC : b ≠ C := fun z => by
        rw [PySem.W.hideAll_none [C] (by simp [z])] at e'; cases e'
      exact PySem.W.hideAll_get _ (nb b o (PySem.W.of_hideAll _ e') hb) (by simpa using nbC)
    · have e' : (PySem.W.hideAll sI.heap [C]).get? b = some o := e
      have nbC : b ≠ C := fun z => by
        rw [PySem.W.hideAll_none [C] (by simp [z])] at e'; cases e'
      obtain ⟨l1, g1⟩ := up b o (PySem.W.of_hideAll _ e') hnf
      obtain ⟨l2, g2⟩ := up1 b _ g1 hnf
      obtain ⟨l3, g3⟩ := up4 b _ ((sb2.2 b nbC).trans g2) hnf
      exact ⟨l3, g3⟩
  first
    | exact wpAny_bind (wpAny_pure (wpAny_bind fin))
    | exact wpAny_bind fin
end

section
variable {X : Cx} {A : Nat → Addr} {W : WX}
/-- [elt for x in iter], the element may raise what a callee lets out -/
theorem lc_coreE {pins : List (Addr × Obj)} {s : Shared} {σ : L2.St} {H : Hp} {Q : VK} {elt tg iter : Expr} {scope : Scope} {own : List (Str × Nat)} {pos pos' : Pos} {wi : TI} {g : TG} {te : TE}
    (hst : X.stack = X.env :: X.outer) (hfr : X.env.frame = some X.env.locals) (tk : L2.Takes X W) (hcalm : X.calm = true) (hN : X.N.Nodup) (I : Inv X pins σ H s) (hi : PI X tg iter wi) (ok : BlkOk X.N X.env.scope scope own)
    (hg : ∀ (t : Shared) (Ht : Hp) (C : Addr) (cl : List (Str × Addr)) (fp : List Addr), PG (blkE X t Ht scope (compEnvC scope cl C X.env) fp) tg g)
    (he : ∀ (t : Shared) (Ht : Hp) (C : Addr) (cl : List (Str × Addr)) (fp : List Addr), (∀ σb, PassesAt (L2.CX X.prog X.w) (blkE X t Ht scope (compEnvC scope cl C X.env) fp) σb (WE (fun cls d _ H' => W cls d σ H') σb)) → PE (blkE X t Ht scope (compEnvC scope cl C X.env) fp) elt te)
    (hs : ∀ x, foldedSetIterable iter X.env x = pure x) (h : tLc wi g tYes te (own.map (·.2)) σ H Q) :
    wpAny (model X.prog X.w) X.A (comprehension (.ListComp elt [⟨tg, iter, [], 0⟩] scope pos) scope X.env pos' (newList []) false (eval iter X.env) none) (EP X pins σ Q) X.xe s := by
  have frees : ∀ y ∈ scope.names, y.2 = .free → ∃ c, X.env.cells.lookup y.1 = some c := by
    intro y hy e
    rcases ok.free y hy e with k | k
    · exact I.ok.has _ (.inl k)
    · exact I.ok.has _ (.inr k)
  refine comprehension_at (use := none) rfl hs (closure_ok frees) ok.kind (fun y hy e => by rw [ok.uniq y hy, e])
    (thn (hi.run pins s σ H _ I h) fun xv s1 hx => thn hx fun itv s2 h2 => ?_)
  obtain ⟨it, fp, tn, J, H2, e, I2, T, st2, f2, q⟩ := h2
  subst e
  refine wpAny_newObj_type (newEnv_comp ?_) (by show 0 ≤ sizeLine; decide)
  generalize hD : s2.heap.objs.size = D
  have nD : H2 D = none := I2.hok.fresh (Nat.le_of_eq hD)
  obtain ⟨Wn, ⟨m0, w0⟩, turn⟩ := q D nD
  generalize ht3 : ({ s2 with heap := s2.heap.push { cls := .type "list", data := .seq ([] : List Value).toArray } } : Shared) = t3
  have J3 : Inv X pins σ (upd H2 D (.lst [])) t3 := by
    rw [← ht3]
    refine I2.laid (t' := s2.toks) (fun b o e => Heap.get?_push_of_some _ e) (Nat.le_of_eq hD) ⟨Nat.zero_le _, [], 0, .nil, ?_⟩
    rw [← hD]
    exact Heap.get?_push_size _ rfl
  have hp3 : t3.heap = s2.heap.push { cls := .type "list", data := .seq ([] : List Value).toArray } := by rw [← ht3]
  have g3 : ∀ b ∈ fp, FpOk X pins (upd H2 D (.lst [])) b ∧ b < t3.heap.objs.size := by
    intro b hb
    obtain ⟨o, e, _⟩ := T.obj _ _ st2 b hb
    have hlt := Heap.lt_size e
    refine ⟨⟨?_, (f2 b hb).2⟩, by rw [hp3, Heap.size_push]; exact Nat.lt_succ_of_lt hlt⟩
    rw [upd_ne (by rw [← hD]; exact Nat.ne_of_lt hlt)]
    exact (f2 b hb).1
  have tn3 : tn 0 t3.heap := T.keep _ _ _ st2 fun b _ o e => by rw [hp3]; exact Heap.get?_push_of_some _ e
  have J4 := inv_unwish (block_start J3 ok hN g3)
  have pg := hg t3 (upd H2 D (.lst [])) t3.heap.objs.size (cellsFrom (t3.heap.objs.size + 1) scope.names (cloFrom X.env.cells scope.names [])) fp
  have pe := he t3 (upd H2 D (.lst [])) t3.heap.objs.size (cellsFrom (t3.heap.objs.size + 1) scope.names (cloFrom X.env.cells scope.names [])) fp
    (fun σb => passE (ce := compEnvC scope (cellsFrom (t3.heap.objs.size + 1) scope.names (cloFrom X.env.cells scope.names [])) t3.heap.objs.size X.env) hst hfr tk J3 rfl rfl (fun b hb => (g3 b hb).1) σb)
  show codeAny _ _ (.compStart (.ListComp elt [⟨tg, iter, [], 0⟩] scope pos) 0 (.ref it) (.ref D) (compEnvC scope (cellsFrom (t3.heap.objs.size + 1) scope.names (cloFrom X.env.cells scope.names [])) t3.heap.objs.size X.env))
    (compEnds (model X.prog X.w) X.A X.xe none (EP X pins σ Q) (.ref D) (compEnvC scope (cellsFrom (t3.heap.objs.size + 1) scope.names (cloFrom X.env.cells scope.names [])) t3.heap.objs.size X.env)) { t3 with heap := pushCells (t3.heap.push { cls := .type "dict", data := .dict #[] }) scope.names }
  have n3 : ∀ b ∈ fp, (upd H2 D (.lst [])) b = none := fun b hb => (g3 b hb).1.1
  generalize hce : compEnvC scope (cellsFrom (t3.heap.objs.size + 1) scope.names (cloFrom X.env.cells scope.names [])) t3.heap.objs.size X.env = ce at J4 pg pe ⊢
  have cL : ce.locals = t3.heap.objs.size := by subst hce; rfl
  generalize hH3 : upd H2 D (.lst []) = H3 at J3 J4 pg pe w0 n3 g3
  generalize ht4 : ({ t3 with heap := pushCells (t3.heap.push { cls := .type "dict", data := .dict #[] }) scope.names } : Shared) = t4 at J4 ⊢
  have tn4 : tn 0 t4.heap := T.keep _ _ _ tn3 fun b _ o e => by rw [← ht4]; exact pushCells_keeps _ _ _ _ (Heap.get?_push_of_some _ e)
  have stat : ∀ {σ' : L2.St} {H' : Hp} {s' : Shared}, Inv (blkE X t3 H3 scope ce fp) [] σ' H' s' → (∀ b ∈ fp, H' b = none) → ∀ b ∈ fp, FpOk (blkE X t3 H3 scope ce fp) [] H' b := by
    intro σ' H' s' I' hn b hb
    exact ⟨hn b hb, (I'.ok.exf b hb).1, I'.ok.exfs b hb, .inl hb, fun x c e => (I'.ok.exf b hb).2 x c e, fun p hp => absurd (show p ∈ ([] : List (Addr × Obj)) ++ [] from hp) (by simp)⟩
  have loop : codeAny (model X.prog X.w) X.A (.compLoop (.ListComp elt [⟨tg, iter, [], 0⟩] scope pos) 0 (.ref it) (.ref D) ce) (compEnds (model X.prog X.w) X.A X.xe none (EP X pins σ Q) (.ref D) ce) t4 := by
    refine compLoop_any (fun n s' => ∃ i H', Inv (blkE X t3 H3 scope ce fp) [] (wipe σ (own.map (·.2))) H' s' ∧ tn i s'.heap ∧ (∀ b ∈ fp, H' b = none) ∧ Wn i n H') ?_ m0 ⟨0, H3, J4, tn4, n3, w0⟩
    rintro n t5 ⟨i, H5, J5, tn5, n5, w5⟩
    rcases turn i n H5 w5 with ⟨stop, qq⟩ | ⟨go, Nx, hNx, step⟩
    · have td := T.done (blkE X t3 H3 scope ce fp) rfl rfl rfl hcalm i [] t5 _ H5 (fun _ _ => False) J5 (stat J5 n5) tn5 stop
      refine thnF td fun r t6 ⟨hr, J6⟩ => ?_
      subst hr
      have nC : H5 t3.heap.objs.size = none := by
        have z : H5 ce.locals = none := J6.free
        rw [cL] at z
        exact z
      obtain ⟨m, hn, _⟩ := J6.loc
      have hn : t6.heap.Ns ce.locals m := hn
      have J7 : Inv X pins σ H5 t6 := by
        refine J3.call' (ch := fp) J6.os J6.base J6.hok J6.bare fun b hb => ?_
        have z := (g3 b hb).1.2
        exact ⟨z.2.2.1, z.1, z.2.2.2.1, z.2.2.2.2⟩
      obtain ⟨f0, f1, f2', f3, f4, f5⟩ := J3.fpOk (Nat.le_refl _) nC
      refine ⟨m, hn, fun h'' sb => ⟨.ref D, H5, ?_, rfl, qq⟩⟩
      rw [cL] at sb
      exact J7.turned (t' := t6.toks) (fun b o hb e => (sb.2 b hb).trans e) f0 f1 f3 f4 f5
    · have ti := T.item (blkE X t3 H3 scope ce fp) rfl rfl rfl hcalm i [] t5 _ H5 (fun _ _ => False) J5 (stat J5 n5) tn5 go
      refine thnF ti fun r t6 ⟨u, hr, h6⟩ => ?_
      subst hr
      refine thnF h6 fun _ t7 ⟨x, H7, J7, r7, y7, tn7, n7⟩ => ?_
      have J7' := J7.pinned (stat J7 n7) (T.obj _ _ tn7)
      refine wpAny_mono (pg.run _ t7 _ H7 x u _ J7' r7 (step x H7 y7)) (fun _ t8 ⟨σ8, H8, J8, hw8, q8⟩ => ?_) fun _ _ z => z
      refine wpAny_tests_nil ?_
      have q8' : te σ8 H8 fun y H4 => ∃ acc, H4 D = some (.lst acc) ∧ acc.length < sizeLine ∧ Nx (upd H4 D (.lst (acc ++ [y]))) := by
        have z := q8
        unfold tYes at z
        exact (if_pos rfl).mp z
      rw [if_pos rfl]
      refine wpAny_mono (pe.run _ t8 σ8 H8 _ J8 q8') (fun z t10 ⟨yv, H10, J10, r10, acc, hD10, hz10, nx⟩ => ?_) fun _ _ z => z
      refine app_ok (X := blkE X t3 H3 scope ce fp) J10 hD10 hz10 r10 fun t11 J11 => ?_
      obtain ⟨m', hm, w'⟩ := hNx _ nx
      have pin' : ∀ b ∈ fp, ∀ o, t7.heap.get? b = some o → t11.heap.get? b = some o ∧ (upd H10 D (.lst (acc ++ [yv]))) b = none := by
        intro b hb o e
        have z := J11.pin (b, o) (List.mem_append_right _ (List.mem_append_right _ (mem_pinsAt hb e)))
        exact ⟨z.1, z.2.1⟩
      have hl : (wipe σ (own.map (·.2))).length = σ8.length := by rw [← hw8, wipe_length]
      refine ⟨m', hm, i + 1, _, (J11.unpinned (pins := [])).weak hl (fun j v e => ?_), T.keep _ _ _ tn7 (fun b hb o e => (pin' b hb o e).1), (fun b hb => ?_), w'⟩
      · rw [← hw8] at e
        exact (wipe_some e).1
      · obtain ⟨o, e, _⟩ := T.obj _ _ tn7 b hb
        exact (pin' b hb o e).2
  exact codeAny_compStart_list loop (T.self X.A 0 _ _ _ tn4 loop)
def fCompE (j : Nat) (it : Sg → Rs (List D)) (f : Sg → Rs D) : Sg → Rs Sl := fun S => (it S).bind fun ds => if ds.length ≤ LIM then (compF j tTrue f (S.set j .un) ds []).bind fun out => .ok (.ow out) else .no
theorem comp_coreE {K : PySem.W.Frag} {j : Nat} {it : Sg → Rs (List D)} {f : Sg → Rs D} {σ : L2.St} {H : Hp} {Q : VK} (h : tX K A W (fCompE j it f) σ H Q) :
    tLc (tI K A W it) (gName j) tYes (tK K A (fun cls d _ H' => W cls d σ H') .st f) [j] σ H Q := by
  obtain ⟨Z0, H0, Hz, S, m, q⟩ := h
  refine ⟨Z0, H0, Hz, S, m, PR.bind q fun ds q J Hz1 H1 st1 io => ?_⟩
  split at q
  · rename_i hlim
    intro Da hD
    have q1 := q.stp st1 fun _ q => PV.stp q st1
    have m1 := (m.stp st1)
    let P : Nat → Nat → Hp → Prop := fun i n H' => n = ds.length - i ∧ i ≤ ds.length ∧ ∃ Hz' acc out, Ex Hz1 Hz' ∧ Stp Hz1 H1 Hz' H' ∧ Hz' Da = none ∧ H' Da = some (.lst acc) ∧ RpAll K Hz' acc out ∧ out.length ≤ i ∧
      Mt K Z0 H0 Hz' H' (S.set j .un) (σ.set j none) ∧ PR A W σ Hz1 H1 (PV K Hz1 H1 Q) ((compF j tTrue f (S.set j .un) (ds.drop i) out).bind fun out => .ok (.ow out))
    have hst : Stp Hz1 H1 Hz1 (upd H1 Da (.lst [])) := Stp.own st1.sub hD
    refine ⟨P, ⟨ds.length, rfl, Nat.zero_le _, Hz1, [], [], .refl _, hst, st1.sub.none hD, upd_same, .nil, Nat.le_refl _, (m1.stp hst).wipe j, q1⟩, ?_⟩
    rintro i n H' ⟨rfl, hi, Hz', acc, out, ez, st2, hzD, hacc, racc, hol, m2, q2⟩
    by_cases hlt : i < ds.length
    · refine .inr ⟨io.go i H' (ez.trans st2.sub) hlt, P (i + 1) (ds.length - (i + 1)), fun H'' p => ⟨_, by omega, p⟩, fun x H'' y => ?_⟩
      obtain ⟨rfl, rx⟩ := io.yld i H' x H'' ds[i] (ez.trans st2.sub) (List.getElem?_eq_getElem hlt) y
      have hdrop : ds.drop i = ds[i] :: ds.drop (i + 1) := List.drop_eq_getElem_cons hlt
      rw [hdrop, compF] at q2
      show wipe ((wipe σ [j]).set j (some x)) [j] = wipe σ [j] ∧ _
      refine ⟨wipe_set σ j _, ?_⟩
      rw [wipe1]
      have m3 : Mt K Z0 H0 Hz' H'' ((S.set j .un).set j (.sh ds[i])) ((σ.set j none).set j (some x)) := m2.set_new (.refl st2.sub) ⟨x, rfl, rx.mono ez⟩ fun _ w => w.elim
      unfold tYes
      refine iteT ?_
      refine ⟨Z0, H0, Hz', _, m3, ?_⟩
      rw [show tTrue ((S.set j .un).set j (.sh ds[i])) = .ok true from rfl, Rs.bind_ok, if_pos rfl] at q2
      cases hf : f ((S.set j .un).set j (.sh ds[i])) with
      | no => rw [hf] at q2; exact q2.elim
      | ex c =>
        rw [hf] at q2
        exact fun Hz3 H3 st3 => q2 Hz3 H3 (st2.trans st3)
      | ok d =>
        rw [hf, Rs.bind_ok] at q2
        intro v Hz4 H4 st4 rv
        have keepD4 : H4 Da = some (.lst acc) := st4.ex _ _ hacc
        have hz4 : Hz4 Da = none := st4.nw _ _ hacc hzD
        have racc4 : RpAll K Hz4 acc out := racc.mono st4.exz
        refine ⟨acc, keepD4, lim' (by rw [racc4.length]; omega), rfl, hlt, Hz4, acc ++ [v], out ++ [d], ez.trans st4.exz, ?_, hz4, upd_same, racc4.snoc rv, by rw [List.length_append]; simp; omega, ?_, q2⟩
        · have s4 := st2.trans st4
          exact ⟨s4.ex.mut hD, s4.exz, s4.sub.mut hz4, s4.nk⟩
        · refine (m2.stp st4).side hz4 (m1.st.ex.none hD) fun k t' g w => ?_
          have m1w := m1.wipe j
          exact m1w.noOw (Hz' := Hz4) hD (st2.trans st4).ex k t' g w
    · have e : i = ds.length := by omega
      subst e
      refine .inl ⟨io.stop H' (ez.trans st2.sub), ?_⟩
      rw [List.drop_length, compF] at q2
      exact q2 (.ref Da) Hz' H' st2 ⟨Da, acc, rfl, hacc, hzD, racc⟩ fun b w => by
        have w' : some (V.ref Da) = some (.ref b) := w
        cases w'; exact hD
  · exact q.elim
theorem ex_compE {j : Nat} {x : Str} {elt iter : Expr} {scope : Scope} {pos tpos : Pos} {it : Sg → Rs (List D)} {f : Sg → Rs D} (hst : X.stack = X.env :: X.outer) (hfr : X.env.frame = some X.env.locals) (tk : L2.Takes X W) (hcalm : X.calm = true) (hN : X.N.Nodup) (hi : IX X A W (.Name x tpos) iter it) (ok : BlkOk X.N X.env.scope scope [(x, j)])
    (hg : ∀ (t : Shared) (Ht : Hp) (C : Addr) (cl : List (Str × Addr)) (fp : List Addr), PG (blkE X t Ht scope (compEnvC scope cl C X.env) fp) (.Name x tpos) (gName j))
    (he : ∀ (W' : WX) (t : Shared) (Ht : Hp) (C : Addr) (cl : List (Str × Addr)) (fp : List Addr), (∀ σb, PassesAt (L2.CX X.prog X.w) (blkE X t Ht scope (compEnvC scope cl C X.env) fp) σb (WE W' σb)) → EK (blkE X t Ht scope (compEnvC scope cl C X.env) fp) A W' .st elt f)
    (hs : ∀ x, foldedSetIterable iter X.env x = pure x := by intro _; rfl) :
    EX X A W (.ListComp elt [⟨.Name x tpos, iter, [], 0⟩] scope pos) (fCompE j it f) := by
  refine ⟨fun pins s σ H Q I h => ?_⟩
  rw [eval_ListComp]
  exact lc_coreE (own := [(x, j)]) hst hfr tk hcalm hN I hi ok hg (fun t Ht C cl fp hx => he _ t Ht C cl fp hx) hs (comp_coreE h)
/-- f(e, ..) in such a block -/
theorem c_callRX {e : Expr} {es : List Expr} {pos : Pos} {kk : Nat} {ps : List Str} {F : List D → Rs Sl} {x : Str} {p : Pos} {fa : Sg → Rs (List D)} (c : Cal X.prog X.w X.K X.mg X.base A kk x ps F) (hr : Room kk X.A) (hx : ∀ σ, PassesAt (L2.CX X.prog X.w) X σ (WE W σ)) (ha : EA X A W .rd (e :: es) fa)
    (hg : Gl X x := by rfl) (hd : (x == ("__debug__" : Str)) = false := by decide) (he : starEach (e :: es) X.env = (false, eval e X.env) :: starEach es X.env := by rfl) (hpl : (backTo pos (starEach es X.env)).any (·.1) = false := by rfl) :
    EX X A W (.Call (.Name x p) (e :: es) [] pos) (fAppR F fa) := by
  obtain ⟨f, fd, G, hm, hk, hb⟩ := c.ex
  exact ex_callR G hr hg hm hk hb hx ha hd he hpl
end
end Sh

/-! ## Part S: defs whose exceptions have no context; try: .. except X: raise Y('..'); int of a text -/
namespace Sh
open PySem PySem.Spec PyProof.Rows L2
section
variable {X : Cx} {A : Nat → Addr} {W : WX} {a b c e : Expr} {es : List Expr} {pos : Pos}
theorem fn_okN {P : Program} {w : World} {K : PySem.W.Frag} {mg : Str → Option Value} {base : Heap} {A : Nat → Addr} {x qual : Str} {st : Stmt} {f : Addr} {fd : FuncData} {N ps : List Str} {k : Nat} {g : List D → Sg → Out} (F : Fun K x qual st f fd) (S : FnScope N ps (defScope st))
    (hb : ∀ (cdv : Value) (A0 : Around) (outer : List Env) (s : Shared) (H : Hp) (E : XK) (ds : List D), Room k (A0.deeper (envOfC qual (defScope st) s.heap.objs.size f cdv)) →
      SB (cxOf (L2N.CX P w) P w K mg base N qual (defScope st) f cdv A0 outer s H E) A (fun c d _ H => E c d H) (defBody st) (g ds)) : FnOk P w K mg base (L2N.CX P w) (k + 1) f fd ps (spF K A (fnF N.length ps.length g)) := by
  obtain ⟨oc, od, kV, doc, pm, an, cdv, ct, osl, rfl, lk, hcd⟩ := F.ex
  refine fn_of lk hcd S (fun vs H Q E h => ?_) (fun A0 outer s H vs Q E hr h => ?_)
  · obtain ⟨Hz, ds, e, r, q⟩ := h
    unfold fnF at q
    split at q
    · rename_i hl
      rw [r.length, hl]
    · exact q.elim
  · obtain ⟨Hz, ds, e, r, q⟩ := h
    refine ⟨_, hb cdv A0 outer s H E ds hr, Hz, H, Hz, _, mt_start (n := N.length) e r, ?_⟩
    unfold fnF at q
    split at q
    · cases hg : g ds (ds.map Sl.sh ++ List.replicate (N.length - ds.length) .un) with
      | nx S' =>
        rw [hg] at q
        exact fun Hz' H' σ' _ m' => q .non Hz' H' m'.st ⟨_, rfl, .non⟩ fun _ w => w.elim
      | rt r => rw [hg] at q; exact q
      | ex c S' => rw [hg] at q; exact fun Hz' H' σ' _ m' => q Hz' H' m'.st
      | bk S' => rw [hg] at q; exact q.elim
      | ct S' => rw [hg] at q; exact q.elim
      | no => rw [hg] at q; exact q.elim
    · exact q.elim
/-- as Cal, what is raised has no context -/
structure CalN (P : Program) (w : World) (K : PySem.W.Frag) (mg : Str → Option Value) (base : Heap) (A : Nat → Addr) (k : Nat) (x : Str) (ps : List Str) (F : List D → Rs Sl) : Prop where
  ex : ∃ f fd, FnOk P w K mg base (L2N.CX P w) k f fd ps (spF K A F) ∧ mg x = some (.ref f) ∧ PySem.W.keepIn K (.ref f) = true ∧ Binds K fd ps []
theorem df_calN {P : Program} {w : World} {K : PySem.W.Frag} {mg : Str → Option Value} {base : Heap} {x : Str} {st : Stmt} {N ps : List Str} {k : Nat} {g : List D → Sg → Out} (d : Df K mg x st) (S : FnScope N ps (defScope st))
    (hbind : ∀ (kV doc pm : Value) (an : Option Addr) (cdv ct : Value) (us : List Value), us.length = ps.length → bindArgs (PySem.W.fnOf x x (defArgs st) (defBody st) (defScope st) .none kV doc pm an cdv ct) ⟨us, []⟩ = pure (ps.zip us))
    (hb : ∀ (f : Addr) (cdv : Value) (A0 : Around) (outer : List Env) (s : Shared) (H : Hp) (E : XK) (ds : List D), Room k (A0.deeper (envOfC x (defScope st) s.heap.objs.size f cdv)) →
      SB (cxOf (L2N.CX P w) P w K mg base N x (defScope st) f cdv A0 outer s H E) A (fun c d _ H => E c d H) (defBody st) (g ds)) : CalN P w K mg base A (k + 1) x ps (fnF N.length ps.length g) := by
  obtain ⟨f, fd, F, hm⟩ := d.ex
  exact ⟨f, fd, fn_okN F S (fun cdv A0 outer s H E ds hr => hb f cdv A0 outer s H E ds hr), hm, F.kp, F.binds hbind⟩
theorem c_callRN {kk : Nat} {ps : List Str} {F : List D → Rs Sl} {x : Str} {p : Pos} {fa : Sg → Rs (List D)} (c : CalN X.prog X.w X.K X.mg X.base A kk x ps F) (hr : Room kk X.A) (tk : L2N.Takes X W) (ha : EA X A W .rd (e :: es) fa)
    (hg : Gl X x := by rfl) (hd : (x == ("__debug__" : Str)) = false := by decide) (he : starEach (e :: es) X.env = (false, eval e X.env) :: starEach es X.env := by rfl) (hpl : (backTo pos (starEach es X.env)).any (·.1) = false := by rfl) :
    EX X A W (.Call (.Name x p) (e :: es) [] pos) (fAppR F fa) := by
  obtain ⟨f, fd, G, hm, hk, hb⟩ := c.ex
  exact ex_callR G hr hg hm hk hb (fun σ => L2N.passAt tk σ) ha hd he hpl
theorem sx_raiseN {x m : Str} {cn : Nat} {j : Nat} {p p2 p3 : Pos} (hc : X.calm = true) (tk : L2N.Takes X W) (T : ExcK X.K X.mg A x cn) (hg : Gl X x := by rfl) (hdb : (x == ("__debug__" : Str)) = false := by decide) : SX X A W (.Raise (some (.Call (.Name x p) [.Constant (.str m) j p2] [] p3)) none pos) (sRaise cn) :=
  PS.imp (L2N.ps_raise hc tk (L2N.pmk_own PySem.F.excBase_ValueError T.xC T.gC T.kC (raises_own T.bC T.tC) hg hdb)) fun Dn σ H ⟨Z0, H0, Hz, S, m, q⟩ => q Hz H σ (.refl _) m
theorem cx_up {P : Program} {w : World} {l : List Env} {H : Hp} {s : Shared} {E : XK} {u : Value} {s' : Shared} (h : L2N.CX P w l H s E u s') : L2.CX P w l H s E u s' := by
  obtain ⟨a, B, H', cls, d, e, fl, r⟩ := h
  exact ⟨a, B, H', cls, d, e, L2H.flyingZ_imp (fun o z => z.zc) fl, r⟩
theorem CalN.cal {P : Program} {w : World} {K : PySem.W.Frag} {mg : Str → Option Value} {base : Heap} {A : Nat → Addr} {k : Nat} {x : Str} {ps : List Str} {F : List D → Rs Sl} (c : CalN P w K mg base A k x ps F) : Cal P w K mg base A k x ps F := by
  obtain ⟨f, fd, G, hm, hk, hb⟩ := c.ex
  refine ⟨f, fd, ⟨G.len, fun A0 outer s H args us vs Q E hr e0 hb' r hsp => ?_⟩, hm, hk, hb⟩
  refine codeAny_mono (G.run A0 outer s H args us vs Q E hr e0 hb' r hsp) fun r s' h => ?_
  cases r with
  | ok f =>
    cases f with
    | ret u => exact h
    | next => exact h
    | brk => exact h
    | cont => exact h
  | error e => exact cx_up h
/-- try: .. except X: raise Y('..') -/
def sTryX (c1 c2 : Nat) (g : Sg → Out) : Sg → Out := fun S => match g S with
  | .ex c S' => if c = c1 then .ex c2 S' else .no
  | o => o
theorem sx_tryX {x1 x2 msg : Str} {c1 c2 : Nat} {g : Sg → Out} {body : List Stmt} {np p p2 p3 rpos pos' : Pos} {j : Nat} (hst : X.stack = X.env :: X.outer) (hfr : X.env.frame = some X.env.locals) (hpa : ∀ hd : Option Value, PassesOwnAt (model X.prog X.w) (X.A.mark hd) X.A X.env X.xe) (tk : L2.Takes X W)
    (T1 : ExcK X.K X.mg A x1 c1) (T2 : ExcK X.K X.mg A x2 c2) (hem : PySem.W.exmOne X.K (.ref (A c1)) (.ref (A c1)) = some true)
    (hb : ∀ (W : WX) (pn : List (Addr × Obj)) (xe : Value → Shared → Prop), L2N.Takes (X.tr pn xe) W → SB (X.tr pn xe) A W body g) (hg1 : Gl X x1 := by rfl) (hg2 : Gl X x2 := by rfl) (hd1 : (x1 == ("__debug__" : Str)) = false := by decide) (hd2 : (x2 == ("__debug__" : Str)) = false := by decide) :
    SX X A W (.Try body [.ExceptHandler (some (.Name x1 np)) none [.Raise (some (.Call (.Name x2 p) [.Constant (.str msg) j p2] [] p3)) none rpos] pos'] [] [] pos) (sTryX c1 c2 g) := by
  refine PS.imp (L2H.ps_try_onlyX (c := .ref (A c1)) (ts := fun _ _ _ => fun _ σ H => W (.ref (A c2)) none σ H) (tb := fun W => tS X.K A W g) hst hfr ⟨hg1, hd1, .inl T1.gC⟩ hpa tk (fun W pn xe tkN _ _ => hb W pn xe tkN) (fun a oe cls d pn hz hf tkS hot => ?_)) fun Dn σ H hh => ?_
  · exact pss_one (L2H.ps_raiseH hot tkS (L2N.pmk_own PySem.F.excBase_ValueError T2.xC T2.gC T2.kC (raises_own T2.bC T2.tC) hg2 hd2))
  · obtain ⟨Z0, H0, Hz, S, m, q⟩ := hh
    refine ⟨Z0, H0, Hz, S, m, ?_⟩
    unfold sTryX at q
    cases hgS : g S with
    | nx S' => rw [hgS] at q; exact q
    | rt r => rw [hgS] at q; exact q
    | bk S' => rw [hgS] at q; exact q
    | ct S' => rw [hgS] at q; exact q
    | no => rw [hgS] at q; exact q
    | ex c S' =>
      rw [hgS] at q
      dsimp only at q
      split at q
      · rename_i hc
        subst hc
        exact fun Hz' H' σ' ez m' => ⟨true, hem, fun _ a ha => q Hz' H' σ' ez m', fun z => nomatch z⟩
      · exact q.elim
end
/-! ### int of a text -/
def oIntS : List D → Rs Sl
  | [.str x] => match PySem.intText? x with
    | some n => if x.length ≤ 640 then okI n else .no
    | none => .no
  | _ => .no
theorem n_intS (x : List D) : NoEx (oIntS x) := by unfold oIntS; (repeat' split) <;> first | exact ne_of_eq | exact ne_no
theorem k_intS {K : PySem.W.Frag} : CaOk .rd K (fun xs H Q => ∃ a n, xs = [V.str a] ∧ PySem.intText? a = some n ∧ a.length ≤ 640 ∧ Q (.int n) H) oIntS := fun Hz H xs ds Q e h q => by
  unfold oIntS at q
  split at q
  · obtain ⟨x, rfl, r⟩ := paired1 h
    split at q
    · rename_i n hn
      split at q
      · rename_i hl
        exact ⟨_, n, by rw [Rp.str_inv r], hn, hl, pv_int e q⟩
      · exact q.elim
    · exact q.elim
  · exact q.elim

/-! ### split, join -/
def strs? : List D → Option (List Str)
  | [] => some []
  | .str i :: r => (strs? r).map (i :: ·)
  | _ :: _ => none
theorem strs_eq : ∀ {ds : List D} {ns : List Str}, strs? ds = some ns → ds = ns.map .str
  | [], ns, h => by cases h; rfl
  | .str i :: r, ns, h => by
    simp only [strs?] at h
    cases e : strs? r with
    | none => rw [e] at h; cases h
    | some ms => rw [e] at h; cases h; rw [strs_eq e]; rfl
  | .none :: _, _, h => nomatch h
  | .bool _ :: _, _, h => nomatch h
  | .int _ :: _, _, h => nomatch h
  | .list _ :: _, _, h => nomatch h
  | .tuple _ :: _, _, h => nomatch h
  | .dict _ :: _, _, h => nomatch h
theorem strs_map : ∀ (ns : List Str), strs? (ns.map .str) = some ns
  | [] => rfl
  | n :: ns => by simp only [List.map_cons, strs?, strs_map ns, Option.map_some]
def oSplit (a : Str) : D → Rs Sl
  | .str b => if (b.length == 0) = false ∧ a.length ≤ LIM then .ok (.ow ((Txt.split a b).map .str)) else .no
  | _ => .no
def oJoin (a : Str) : D → Rs Sl
  | .list ds => match strs? ds with
    | some ys => if (ys.map (·.length)).sum + ys.length * a.length ≤ LIM then .ok (.sh (.str (Txt.join a ys))) else .no
    | none => .no
  | _ => .no
def fStM (g : Str → D → Rs Sl) (fa fb : Sg → Rs D) : Sg → Rs Sl := fun S => (fa S).bind fun x => match x with
  | .str a => (fb S).bind fun y => g a y
  | _ => .no
theorem rp_strs {K : PySem.W.Frag} {H : Hp} : ∀ (ns : List Str), RpAll K H (ns.map V.str) (ns.map .str)
  | [] => .nil
  | n :: ns => .cons (.str n) (rp_strs ns)
section
variable {X : Cx} {A : Nat → Addr} {W : WX} {a b : Expr} {fa fb : Sg → Rs D}
theorem ex_m_split {apos cpos : Pos} (ha : EK X A W .rd a fa) (hb : EK X A W .rd b fb) (hs : starEach [b] X.env = [(false, eval b X.env)] := by rfl) (hbase : attributeBase a "split" X.env (eval a X.env) = eval a X.env := by rfl) (hline : (apos.endLine == cpos.line) = true := by rfl) :
    EX X A W (.Call (.Attribute a "split" apos) [b] [] cpos) (fStM oSplit fa fb) :=
  PE.imp (pe_split ha hb hs hbase hline) fun σ H Q ⟨Z0, H0, Hz, S, m, q⟩ => by
    refine ⟨Z0, H0, Hz, S, m, PR.bind q fun d q v Hz1 H1 st1 r1 => ?_⟩
    have r1r : Rp X.K H1 v d := r1
    split at q
    · rename_i x
      refine ⟨⟨x, r1r.str_inv⟩, Z0, H0, Hz1, S, m.stp st1, PR.bind (q.stp st1 fun _ q => PV.stp q st1) fun d2 q v2 Hz2 H2 st2 r2 => ?_⟩
      have q2 := q.stp st2 fun _ q => PV.stp q st2
      have r2r : Rp X.K H2 v2 d2 := r2
      unfold oSplit at q2
      split at q2
      · rename_i y
        split at q2
        · rename_i hc
          refine ⟨x, y, r1r.str_inv, by rw [r2r.str_inv], hc.1, Nat.le_trans (Nat.add_le_add_right hc.2 2) (by decide), fun p hp => ?_⟩
          exact pv_ow st2.sub q2 hp (rp_strs _)
        · exact q2.elim
      · exact q2.elim
    · exact q.elim
theorem ex_m_join {apos cpos : Pos} (ha : EK X A W .rd a fa) (hb : EK X A W .rd b fb) (hs : starEach [b] X.env = [(false, eval b X.env)] := by rfl) (hbase : attributeBase a "join" X.env (eval a X.env) = eval a X.env := by rfl) (hline : (apos.endLine == cpos.line) = true := by rfl) :
    EX X A W (.Call (.Attribute a "join" apos) [b] [] cpos) (fStM oJoin fa fb) :=
  PE.imp (pe_join ha hb hs hbase hline) fun σ H Q ⟨Z0, H0, Hz, S, m, q⟩ => by
    refine ⟨Z0, H0, Hz, S, m, PR.bind q fun d q v Hz1 H1 st1 r1 => ?_⟩
    have r1r : Rp X.K H1 v d := r1
    split at q
    · rename_i x
      refine ⟨⟨x, r1r.str_inv⟩, Z0, H0, Hz1, S, m.stp st1, PR.bind (q.stp st1 fun _ q => PV.stp q st1) fun d2 q v2 Hz2 H2 st2 r2 => ?_⟩
      have q2 := q.stp st2 fun _ q => PV.stp q st2
      have r2r : Rp X.K H2 v2 d2 := r2
      unfold oJoin at q2
      split at q2
      · rename_i ds
        split at q2
        · rename_i ys hys
          split at q2
          · rename_i hc
            have e := strs_eq hys
            subst e
            obtain ⟨p, xs, rfl, hp, rp⟩ := r2r.lst_inv
            have e := rp.strs_inv
            subst e
            exact ⟨x, p, ys, r1r.str_inv, rfl, .inl (SqL.of hp), Nat.le_trans hc (by decide), pv_str st2.sub q2⟩
          · exact q2.elim
        · exact q2.elim
      · exact q2.elim
    · exact q.elim
end
end Sh

/-! ## Part T: try: .. except ShareError as e: told = f(e), f a def that asks of what classes e is -/
namespace Sh
open PySem PySem.Spec PyProof.Rows L2
theorem call_isP {X : Cx} {a D : Addr} {oe : Obj} (hm : (a, oe) ∈ X.pn) (C : ExcC X.K D) (hz : Zc (.ref D) none oe) (hf : ∃ vs, oe.data = .fields vs) : CallR X (.builtin "isinstance") (rIsE X.K D a) := by
  intro pn s σ H xs us Q I r h
  obtain ⟨c, cv, b, rfl, hcv, e, q⟩ := h
  cases r with
  | cons rx r2 =>
    cases r2 with
    | cons rt r3 =>
      cases r3
      cases rx
      have ec := hcv _ rt
      subst ec
      have there := (I.pin (a, oe) (List.mem_append_left _ hm)).1
      obtain ⟨vs, hv⟩ := hf
      have J : PySem.W.InstAt s.heap a oe D none := by
        cases oe with
        | mk oc od oda osl =>
          obtain ⟨z1, z2⟩ := hz
          dsimp only at z1 z2 hv
          subst z1 z2 hv
          exact ⟨there, rfl, rfl, trivial⟩
      refine PySem.W.kia_one (PySem.W.handS_kitx_exc C.hg C.hk C.hs C.hd C.ha C.hn C.ht C.hm) I.kIn J e (fun z => nomatch z) fun tk => ?_
      exact ⟨.bl b, H, I.kept (t' := tk) fun _ _ w => w, rfl, q⟩
section
variable {X : Cx} {A : Nat → Addr} {W : WX} {pos : Pos}
theorem pe_isP {a D ac : Addr} {oe : Obj} {j : Nat} {x n : Str} {p p2 p3 : Pos} (hmem : (a, oe) ∈ X.pn) (C : ExcC X.K D) (hz : Zc (.ref D) none oe) (hf : ∃ vs, oe.data = .fields vs) (hj : X.N[j]? = some n) (hv : Vis X.env.scope n) (hg : Gl X "isinstance") (hm : X.mg "isinstance" = none) (hgx : Gl X x) (hmx : X.mg x = some (.ref ac)) (hdb : (x == ("__debug__" : Str)) = false := by decide) (hnd : (n == ("__debug__" : Str)) = false := by decide) (hnc : (n == ("__classdict__" : Str)) = false := by decide)
    (hs : starEach [.Name n p2, .Name x p3] X.env = (false, eval (.Name n p2) X.env) :: starEach [.Name x p3] X.env := by rfl) (hs2 : starEach [.Name x p3] X.env = (false, eval (.Name x p3) X.env) :: starEach [] X.env := by rfl) (hpl : (backTo pos (starEach [.Name x p3] X.env)).any (·.1) = false := by rfl) :
    PE X (.Call (.Name "isinstance" p) [.Name n p2, .Name x p3] [] pos) (tCB (rIsE X.K D a) (tCons (tVar j) (tCons (tC (.ref ac)) tNil))) :=
  pe_callB (call_isP hmem C hz hf) hg hm boot_isinstance (pa_cons (pe_var hj hv hnd hnc) (pa_cons (pe_glob (v := .ref ac) hgx hmx rfl hdb) pa_nil hs2) hs) (by decide) (by decide) hs hpl
theorem pe_isPV {a D : Addr} {oe : Obj} {j : Nat} {n : Str} {p p2 p3 : Pos} (hmem : (a, oe) ∈ X.pn) (C : ExcC X.K D) (hz : Zc (.ref D) none oe) (hf : ∃ vs, oe.data = .fields vs) (hj : X.N[j]? = some n) (hv : Vis X.env.scope n) (hg : Gl X "isinstance") (hm : X.mg "isinstance" = none) (hgx : Gl X "ValueError") (hmx : X.mg "ValueError" = none) (hnd : (n == ("__debug__" : Str)) = false := by decide) (hnc : (n == ("__classdict__" : Str)) = false := by decide)
    (hs : starEach [.Name n p2, .Name "ValueError" p3] X.env = (false, eval (.Name n p2) X.env) :: starEach [.Name "ValueError" p3] X.env := by rfl) (hs2 : starEach [.Name "ValueError" p3] X.env = (false, eval (.Name "ValueError" p3) X.env) :: starEach [] X.env := by rfl) (hpl : (backTo pos (starEach [.Name "ValueError" p3] X.env)).any (·.1) = false := by rfl) :
    PE X (.Call (.Name "isinstance" p) [.Name n p2, .Name "ValueError" p3] [] pos) (tCB (rIsE X.K D a) (tCons (tVar j) (tCons (tC (.ty "ValueError")) tNil))) :=
  pe_callB (call_isP hmem C hz hf) hg hm boot_isinstance (pa_cons (pe_var hj hv hnd hnc) (pa_cons (pe_bltn (v := .ty "ValueError") hgx hmx (by decide +kernel) rfl (by decide) (by decide)) pa_nil hs2) hs) (by decide) (by decide) hs hpl
end
/-- what a def does that is called in an except suite, the exception handed in -/
theorem fn_ofW {CX : CXT} {P : Program} {w : World} {K : PySem.W.Frag} {mg : Str → Option Value} {base : Heap} {k : Nat} {f : Addr} {name qual : Str} {params : Arguments} {body : List Stmt} {scope : Scope} {dV kV doc pm cdv ct oc : Value} {an od : Option Addr} {osl : Array (Option Value)} {N ps : List Str}
    (look : K.lookup f = some ⟨oc, od, .func (PySem.W.fnOf name qual params body scope dV kV doc pm an cdv ct), osl⟩) (code : PySem.W.codeIn K cdv qual = true) (S : FnScope N ps scope)
    {Ar : Around} {outer : List Env} {s : Shared} {H : Hp} {args : Args} {us : List Value} {vs : List V} {Q : VK} {E : XK} {p : Addr × Obj} (room : L2H.RoomH (k + 1) Ar) (pin : L2H.PinOk outer H s p) (e0 : Env0 P w K mg base Ar outer s H)
    (bind : BindsTo s (PySem.W.fnOf name qual params body scope dV kV doc pm an cdv ct) args (ps.zip us)) (vals : Vals vs us) (len : vs.length = ps.length)
    (hbody : ∃ t, PSs (L2H.cxH CX P w K mg base N qual scope f cdv Ar outer s H E p) body t ∧ t { nx := fun _ H' => Q .non H', rt := Q } (L2.start N vs) H) :
    codeAny (model P w) Ar (.call (.ref f) args) (CR CX outer P w H s Q E) s := by
  have kin : K.In s.heap := e0.mod.kin.keeps fun b o z => (e0.bs b o z).1
  have free : s.heap.NoLimit := e0.mod.nolimit.keeps fun b o z => (e0.bs b o z).1
  have names : ∀ y ∈ ps.zip us, scope.names.lookup y.1 = some .local ∨ (scope.names.lookup y.1 = some .cell ∧ ((cellsFrom (s.heap.objs.size + 1) scope.names []).lookup y.1).isSome = true) := by
    rintro ⟨n, v⟩ hy
    rcases S.par n (List.of_mem_zip hy).1 with q | q
    · exact .inl q
    · exact .inr ⟨q, PySem.W.cellsFrom_some _ _ _ (.inl q)⟩
  refine codeAny_call_function room.depth (kin _ _ look) rfl S.co S.gen rfl (PySem.W.codeRec_of kin code) (bind _ _ _ _ ?_)
  refine wpAny_newFunctionEnv_cells S.kind names fun env he s1 x => ?_
  subst he
  refine ⟨free.keeps x.toInCall.keep, codeAny_func ?_⟩
  obtain ⟨t, ht, hq⟩ := hbody
  have J := L2H.inv_startH (CX := CX) (E := E) S pin e0 len vals x
  refine wpAny_mono (ht.run [] s1 (L2.start N vs) H _ J hq) (fun fl s' hs => ?_) fun e s' hs => hs
  cases fl with
  | ret u =>
    obtain ⟨v, σ', H', J', rv, q⟩ := hs
    exact ⟨v, H', J'.os, J'.bare, J'.base, J'.hok, rv, q⟩
  | next =>
    obtain ⟨σ', H', J', q⟩ := hs
    exact ⟨V.non, H', J'.os, J'.bare, J'.base, J'.hok, rfl, q⟩
  | brk =>
    obtain ⟨_, _, _, q⟩ := hs
    exact q.elim
  | cont =>
    obtain ⟨_, _, _, q⟩ := hs
    exact q.elim
/-- a new list of bools has come -/
def WPost (H : Hp) (l : List Bool) (v : V) (H' : Hp) : Prop := (∀ Hz, Ex Hz H → Stp Hz H Hz H') ∧ ∃ q, v = .ref q ∧ H' q = some (.lst (l.map V.bl)) ∧ H q = none
def WRun (P : Program) (w : World) (K : PySem.W.Frag) (mg : Str → Option Value) (base : Heap) (A : Nat → Addr) (h : Nat → Option (List Bool)) (f : Addr) (fd : FuncData) (ps : List Str) : Prop :=
  ∀ (c : Nat) (l : List Bool), h c = some l → ∀ (Ar : Around) (outer : List Env) (s : Shared) (H : Hp) (args : Args) (Q : VK) (E : XK) (p : Addr × Obj), L2H.RoomH 1 Ar → L2H.PinOk outer H s p → Env0 P w K mg base Ar outer s H → BindsTo s fd args (ps.zip [.ref p.1]) →
    Zc (.ref (A c)) none p.2 → (∃ vs, p.2.data = .fields vs) → (∀ v H', WPost H l v H' → Q v H') → codeAny (model P w) Ar (.call (.ref f) args) (CR (L2.CX P w) outer P w H s Q E) s
structure CalW (P : Program) (w : World) (K : PySem.W.Frag) (mg : Str → Option Value) (base : Heap) (A : Nat → Addr) (h : Nat → Option (List Bool)) (x : Str) (ps : List Str) : Prop where
  ex : ∃ f fd, WRun P w K mg base A h f fd ps ∧ mg x = some (.ref f) ∧ PySem.W.keepIn K (.ref f) = true ∧ Binds K fd ps []
section
variable {X : Cx} {A : Nat → Addr} {W : WX} {pos : Pos}
def tWh (j : Nat) (a : Addr) (l : List Bool) : TE := fun σ H Q => σ[j]? = some (some (.ref a)) ∧ ∀ v H', WPost H l v H' → Q v H'
theorem pe_callW {a : Addr} {oe : Obj} {h : Nat → Option (List Bool)} {c : Nat} {l : List Bool} {x n y : Str} {j : Nat} {p p2 : Pos} (F : CalW X.prog X.w X.K X.mg X.base A h x [y]) (hr : L2H.RoomH 1 X.A) (hmem : (a, oe) ∈ X.pn) (hz : Zc (.ref (A c)) none oe) (hf : ∃ vs, oe.data = .fields vs) (hc : h c = some l)
    (hj : X.N[j]? = some n) (hv : Vis X.env.scope n) (hg : Gl X x) (hd : (x == ("__debug__" : Str)) = false := by decide) (hnd : (n == ("__debug__" : Str)) = false := by decide) (hnc : (n == ("__classdict__" : Str)) = false := by decide)
    (hs : starEach [.Name n p2] X.env = (false, eval (.Name n p2) X.env) :: starEach [] X.env := by rfl) (hpl : (backTo pos (starEach [] X.env)).any (·.1) = false := by rfl) :
    PE X (.Call (.Name x p) [.Name n p2] [] pos) (tWh j a l) := by
  obtain ⟨f, fd, G, hm, hk, hb⟩ := F.ex
  refine ⟨fun pn s σ H Q I q => ?_⟩
  obtain ⟨q1, q2⟩ := q
  refine wpAny_Call_Name_kw (ld_glob I hg hm ?_ hd)
  have ha : PA X [.Name n p2] (tCons (tVar j) tNil) := pa_cons (pe_var hj hv hnd hnc) pa_nil hs
  refine PySem.W.callWith_K (h₀ := X.base) I.ok.mod.kin hk (thn (ha.run pos pn s σ H (fun vs H1 => vs = [V.ref a] ∧ H = H1) I ⟨_, q1, rfl, rfl⟩) fun us s1 hh => ?_) hs hpl
  obtain ⟨vs, H1, I1, r1, ev, eH⟩ := hh
  subst ev eH
  refine ⟨I1.kIn, ?_⟩
  cases r1 with
  | cons ru rn =>
    rename_i u us'
    cases rn
    cases ru
    have pz := I1.pin (a, oe) (List.mem_append_left _ hmem)
    have pin : L2H.PinOk X.stack H s1 (a, oe) := ⟨pz.1, pz.2.1, fun hm => (List.mem_cons.mp (I1.stkSub a hm)).elim pz.2.2.1 pz.2.2.2.1, pz.2.2.2.2⟩
    have bb := hb s1 [.ref a] I1.kIn rfl
    rw [List.append_nil] at bb
    refine wpAny_call (codeAny_mono (G c l hc X.A X.stack s1 H ⟨[.ref a], []⟩ Q (fun _ _ _ => False) (a, oe) hr pin I1.env0 bb hz hf q2) fun r s' hq => ?_)
    cases r with
    | error e =>
      obtain ⟨_, _, _, _, _, _, _, _, _, _, _, _, z⟩ := (show L2.CX X.prog X.w X.stack H s1 (fun _ _ _ => False) e s' from hq)
      exact z.elim
    | ok fl =>
      cases fl with
      | ret u => exact I1.after hq
      | next => exact False.elim hq
      | brk => exact False.elim hq
      | cont => exact False.elim hq
def sTryW (i j : Nat) (h : Nat → Option (List Bool)) (g : Sg → Out) : Sg → Out := fun S => match g S with
  | .ex c S' => (match h c with
    | some l => if j < S'.length then .nx ((S'.set j .un).set i (.ow (l.map .bool))) else .no
    | none => .no)
  | o => o
theorem rp_bools {K : PySem.W.Frag} {H : Hp} : ∀ l : List Bool, RpAll K H (l.map V.bl) (l.map .bool)
  | [] => .nil
  | b :: l => .cons (.bl b) (rp_bools l)
def tsW (A : Nat → Addr) (i j : Nat) (h : Nat → Option (List Bool)) (a : Addr) (cls : Value) (d : Option Addr) : TS := fun Dn σ H => ∃ c l, cls = .ref (A c) ∧ d = none ∧ h c = some l ∧ tAsg (tWh j a l) (gName i) Dn σ H
theorem sx_tryW {i j : Nat} {n : Str} {cS : Addr} {h : Nat → Option (List Bool)} {g : Sg → Out} {body suite : List Stmt} {b₀ : Stmt} {np pos' : Pos}
    (hst : X.stack = X.env :: X.outer) (hfr : X.env.frame = some X.env.locals) (hN : X.N.Nodup) (hj : X.N[j]? = some n) (hij : i ≠ j) (hln : X.env.kindOf n = some .local) (tk : L2.Takes X W)
    (hgS : Gl X "ShareError") (hmS : X.mg "ShareError" = some (.ref cS)) (hem : ∀ c l, h c = some l → PySem.W.exmOne X.K (.ref (A c)) (.ref cS) = some true)
    (hb : ∀ (W : WX) (pn : List (Addr × Obj)) (xe : Value → Shared → Prop), L2.Takes (X.tr pn xe) W → PassesOwn (model X.prog X.w) X.A X.env xe → SB (X.tr pn xe) A W body g)
    (hsu : ∀ (a : Addr) (oe : Obj) (c : Nat) (l : List Bool) (pn : List (Addr × Obj)), h c = some l → Zc (.ref (A c)) none oe → (∃ vs, oe.data = .fields vs) → PSs (X.suite a ((a, oe) :: pn)) (b₀ :: suite) (tAsg (tWh j a l) (gName i))) :
    SX X A W (.Try body [.ExceptHandler (some (.Name "ShareError" np)) (some n) (b₀ :: suite) pos'] [] [] pos) (sTryW i j h g) := by
  refine PS.imp (ps_try_as (ts := tsW A i j h) (tb := fun W => tS X.K A W g) hst hfr hN hj hln ⟨hgS, by decide, .inl hmS⟩ tk hb (fun a oe cls d pn hz hf => ⟨fun pins s σ H D I q => ?_⟩)) fun Dn σ H hh => ?_
  · obtain ⟨c, l, rfl, rfl, hc, q⟩ := q
    exact (hsu a oe c l pn hc hz hf).run pins s σ H D I q
  · obtain ⟨Z0, H0, Hz, S, m, q⟩ := hh
    refine ⟨Z0, H0, Hz, S, m, ?_⟩
    unfold sTryW at q
    cases hg : g S with
    | nx S' => rw [hg] at q; exact q
    | rt r => rw [hg] at q; exact q
    | bk S' => rw [hg] at q; exact q
    | ct S' => rw [hg] at q; exact q
    | no => rw [hg] at q; exact q
    | ex c S' =>
      rw [hg] at q
      cases hc : h c with
      | none => simp only [hc] at q; exact q.elim
      | some l =>
        simp only [hc] at q
        intro Hz' H' σ' ez m'
        split at q
        · rename_i hjS
          refine ⟨true, hem c l hc, fun _ a ha => ⟨c, l, rfl, rfl, hc, ?_⟩, fun z => nomatch z⟩
          have hlen : j < σ'.length := by rw [m'.len]; exact hjS
          have hget : (σ'.set j (some (V.ref a)))[j]? = some (some (V.ref a)) := List.getElem?_set_self hlen
          refine ⟨hget, fun v H2 hp => ?_⟩
          obtain ⟨hst2, q0, rfl, hq0, hn0⟩ := hp
          have m2 := m'.drop (i := j) (o := none)
          have st := hst2 Hz' m2.st.sub
          have m3 := m2.set_new (i := i) (v := .ref q0) (s := .ow (l.map .bool)) st ⟨q0, _, rfl, hq0, m2.st.sub.none hn0, rp_bools l⟩ (fun b w => by
            have w' : some (V.ref q0) = some (.ref b) := w
            cases w'; exact hn0)
          have e : ((σ'.set j (some (V.ref a))).set i (some (V.ref q0))).set j none = (σ'.set j none).set i (some (V.ref q0)) := by
            rw [List.set_comm _ _ (Ne.symm hij), List.set_set]
            exact List.set_comm _ _ hij
          show Dn.nx (((σ'.set j (some (V.ref a))).set i (some (V.ref q0))).set j none) _
          rw [e]
          exact q _ _ _ ez m3
        · exact q.elim
end
theorem Stp.own2 {Hz H H' : Hp} {p : Addr} {o : HO} (s : Stp Hz H Hz H') (h : H' p = none) : Stp Hz H Hz (upd H' p o) := s.trans (Stp.own s.sub h)
theorem roomW {k : Nat} {A : Around} {v : Option Value} (r : Room k A) : L2H.RoomH k (A.mark v) := ⟨r.dp, r.un⟩
/-- of which of nine classes the exception is, and what must be known of its class -/
def wb (c : Nat) : List Bool := [decide (c = 0), decide (c = 1), decide (c = 2), decide (c = 3), decide (c = 4), decide (c = 5), decide (c = 6), decide (c = 7), decide (c = 8), true]
structure Tr9 (K : PySem.W.Frag) (A : Nat → Addr) (c : Nat) : Prop where
  ec : ExcC K (A c)
  k0 : PySem.W.kitOne K (.ref (A c)) (.ref (A 0)) = some (decide (c = 0))
  k1 : PySem.W.kitOne K (.ref (A c)) (.ref (A 1)) = some (decide (c = 1))
  k2 : PySem.W.kitOne K (.ref (A c)) (.ref (A 2)) = some (decide (c = 2))
  k3 : PySem.W.kitOne K (.ref (A c)) (.ref (A 3)) = some (decide (c = 3))
  k4 : PySem.W.kitOne K (.ref (A c)) (.ref (A 4)) = some (decide (c = 4))
  k5 : PySem.W.kitOne K (.ref (A c)) (.ref (A 5)) = some (decide (c = 5))
  k6 : PySem.W.kitOne K (.ref (A c)) (.ref (A 6)) = some (decide (c = 6))
  k7 : PySem.W.kitOne K (.ref (A c)) (.ref (A 7)) = some (decide (c = 7))
  k8 : PySem.W.kitOne K (.ref (A c)) (.ref (A 8)) = some (decide (c = 8))
  kv : PySem.W.kitOne K (.ref (A c)) (.type "ValueError") = some true
  em : PySem.W.exmOne K (.ref (A c)) (.ref (A 9)) = some true
end Sh

/-! ## Plain: marks by first places -/
namespace Sh
def good : Nat → List Nat → Bool
  | _, [] => true
  | f, m :: r => decide (m ≤ f) && good (max f (m + 1)) r
section
variable {κ μ : Type} [DecidableEq κ] [DecidableEq μ]
def firsts : List κ → List κ → List κ
  | s, [] => s
  | s, x :: r => if x ∈ s then firsts s r else firsts (s ++ [x]) r
def canon (xs : List κ) : List Nat := xs.map fun x => (firsts [] xs).idxOf x
theorem firsts_app : ∀ (xs s : List κ), ∃ t, firsts s xs = s ++ t
  | [], s => ⟨[], by simp [firsts]⟩
  | x :: r, s => by
    unfold firsts
    split
    · exact firsts_app r s
    · obtain ⟨t, h⟩ := firsts_app r (s ++ [x])
      exact ⟨x :: t, by rw [h]; simp⟩
theorem mem_firsts : ∀ (xs s : List κ) (y : κ), y ∈ firsts s xs ↔ y ∈ s ∨ y ∈ xs
  | [], s, y => by simp [firsts]
  | x :: r, s, y => by
    unfold firsts
    split
    · rw [mem_firsts r s y]; grind
    · rw [mem_firsts r (s ++ [x]) y]; grind
theorem idxOf_inj {l : List κ} {x y : κ} (hx : x ∈ l) (hy : y ∈ l) (h : l.idxOf x = l.idxOf y) : x = y := by
  have h1 := List.idxOf_lt_length_of_mem hx
  have h2 := List.idxOf_lt_length_of_mem hy
  have e1 : l[l.idxOf x] = x := List.getElem_idxOf h1
  have e2 : l[l.idxOf y] = y := List.getElem_idxOf h2
  rw [← e1, ← e2]
  congr 1
@[simp] theorem canon_length (xs : List κ) : (canon xs).length = xs.length := by simp [canon]
theorem canon_get (xs : List κ) (i : Nat) : (canon xs)[i]? = (xs[i]?).map fun x => (firsts [] xs).idxOf x := by simp [canon]
/-- as many, and alike at the same places -/
def Same (xs : List κ) (ys : List μ) : Prop := xs.length = ys.length ∧ ∀ i j : Nat, i < xs.length → j < xs.length → (xs[i]? = xs[j]? ↔ ys[i]? = ys[j]?)
theorem Same.symm {xs : List κ} {ys : List μ} (h : Same xs ys) : Same ys xs := ⟨h.1.symm, fun i j hi hj => (h.2 i j (h.1 ▸ hi) (h.1 ▸ hj)).symm⟩
theorem Same.trans {ν : Type} [DecidableEq ν] {xs : List κ} {ys : List μ} {zs : List ν} (h : Same xs ys) (g : Same ys zs) : Same xs zs := ⟨h.1.trans g.1, fun i j hi hj => (h.2 i j hi hj).trans (g.2 i j (h.1 ▸ hi) (h.1 ▸ hj))⟩
theorem same_canon (xs : List κ) : Same xs (canon xs) := by
  refine ⟨by simp, fun i j hi hj => ?_⟩
  rw [canon_get, canon_get, List.getElem?_eq_getElem hi, List.getElem?_eq_getElem hj]
  simp only [Option.map_some, Option.some.injEq]
  constructor
  · intro h; rw [h]
  · intro h
    exact idxOf_inj ((mem_firsts _ _ _).mpr (.inr (List.getElem_mem hi))) ((mem_firsts _ _ _).mpr (.inr (List.getElem_mem hj))) h
theorem idxOf_map_inj {f : κ → μ} : ∀ (l : List κ) (x : κ), (∀ y ∈ l, f y = f x → y = x) → (l.map f).idxOf (f x) = l.idxOf x
  | [], x, _ => rfl
  | y :: l, x, h => by
    rw [List.map_cons, List.idxOf_cons, List.idxOf_cons]
    have ih := idxOf_map_inj l x fun z hz => h z (List.mem_cons_of_mem _ hz)
    have := h y (List.mem_cons_self ..)
    grind
theorem firsts_map {f : κ → μ} : ∀ (xs s : List κ), (∀ x y, (x ∈ s ∨ x ∈ xs) → (y ∈ s ∨ y ∈ xs) → f x = f y → x = y) → firsts (s.map f) (xs.map f) = (firsts s xs).map f
  | [], s, _ => rfl
  | x :: r, s, h => by
    rw [List.map_cons]
    unfold firsts
    have e : f x ∈ s.map f ↔ x ∈ s := by
      rw [List.mem_map]
      constructor
      · rintro ⟨y, hy, e⟩
        have := h y x (.inl hy) (.inr (List.mem_cons_self ..)) e
        subst this; exact hy
      · exact fun hx => ⟨x, hx, rfl⟩
    by_cases hx : x ∈ s
    · rw [if_pos hx, if_pos (e.mpr hx)]
      exact firsts_map r s fun a b ha hb => h a b (by grind) (by grind)
    · rw [if_neg hx, if_neg fun z => hx (e.mp z)]
      have := firsts_map (f := f) r (s ++ [x]) fun a b ha hb => h a b (by grind) (by grind)
      rw [← this, List.map_append]; rfl
theorem canon_map {f : κ → μ} (xs : List κ) (h : ∀ x y, x ∈ xs → y ∈ xs → f x = f y → x = y) : canon (xs.map f) = canon xs := by
  unfold canon
  have e := firsts_map (f := f) xs [] fun x y hx hy => h x y (by grind) (by grind)
  rw [List.map_nil] at e
  rw [e, List.map_map]
  apply List.map_congr_left
  intro x hx
  exact idxOf_map_inj _ _ fun y hy e => h y x (by simpa using (mem_firsts _ _ _).mp hy) hx e
theorem canon_same {xs : List κ} {ys : List μ} (h : Same xs ys) : canon xs = canon ys := by
  cases ys with
  | nil => have := h.1; simp at this; subst this; rfl
  | cons y0 yr =>
    generalize hys : y0 :: yr = ys at h
    let f : κ → μ := fun x => (ys[xs.idxOf x]?).getD y0
    have hf : ∀ i (hi : i < xs.length), ys[i]? = some (f xs[i]) := by
      intro i hi
      have hm : xs[i] ∈ xs := List.getElem_mem hi
      have h1 := List.idxOf_lt_length_of_mem hm
      have e1 : xs[xs.idxOf xs[i]] = xs[i] := List.getElem_idxOf h1
      have e2 : xs[xs.idxOf xs[i]]? = xs[i]? := by rw [List.getElem?_eq_getElem h1, e1, List.getElem?_eq_getElem hi]
      have e3 := (h.2 _ _ h1 hi).mp e2
      have hj : i < ys.length := h.1 ▸ hi
      have e4 : ys[i]? = some ys[i] := List.getElem?_eq_getElem hj
      show ys[i]? = some ((ys[xs.idxOf xs[i]]?).getD y0)
      rw [e3, e4]; rfl
    have e : ys = xs.map f := by
      apply List.ext_getElem?
      intro i
      by_cases hi : i < xs.length
      · rw [hf i hi, List.getElem?_map, List.getElem?_eq_getElem hi]; rfl
      · have := h.1
        rw [List.getElem?_eq_none (by omega), List.getElem?_eq_none (by rw [List.length_map]; omega)]
    rw [e, canon_map]
    intro x y hx hy hxy
    obtain ⟨i, hi, rfl⟩ := List.getElem_of_mem hx
    obtain ⟨j, hj, rfl⟩ := List.getElem_of_mem hy
    have := (h.2 i j hi hj).mpr (by rw [hf i hi, hf j hj, hxy])
    rw [List.getElem?_eq_getElem hi, List.getElem?_eq_getElem hj] at this
    exact Option.some.inj this
theorem good_canon_go : ∀ (xs s : List κ), good s.length (xs.map fun x => (firsts s xs).idxOf x) = true
  | [], s => rfl
  | x :: r, s => by
    rw [List.map_cons, good, Bool.and_eq_true, decide_eq_true_iff]
    by_cases hx : x ∈ s
    · have e : firsts s (x :: r) = firsts s r := by rw [firsts, if_pos hx]
      rw [e]
      obtain ⟨t, ht⟩ := firsts_app r s
      have hi : (firsts s r).idxOf x < s.length := by
        rw [ht, List.idxOf_append, if_pos hx]
        exact List.idxOf_lt_length_of_mem hx
      refine ⟨by omega, ?_⟩
      rw [Nat.max_eq_left (by omega)]
      exact good_canon_go r s
    · have e : firsts s (x :: r) = firsts (s ++ [x]) r := by rw [firsts, if_neg hx]
      rw [e]
      obtain ⟨t, ht⟩ := firsts_app r (s ++ [x])
      have hi : (firsts (s ++ [x]) r).idxOf x = s.length := by
        rw [ht, List.append_assoc, List.idxOf_append, if_neg hx]
        simp
      refine ⟨by omega, ?_⟩
      rw [hi, Nat.max_eq_right (by omega)]
      have := good_canon_go r (s ++ [x])
      rw [List.length_append] at this
      exact this
theorem good_canon (xs : List κ) : good 0 (canon xs) = true := good_canon_go xs []
end
theorem idxOf_range {k m : Nat} (h : m < k) : (List.range k).idxOf m = m := by
  have hm : m ∈ List.range k := List.mem_range.mpr h
  have h1 := List.idxOf_lt_length_of_mem hm
  have e : (List.range k)[(List.range k).idxOf m] = m := List.getElem_idxOf h1
  rw [List.getElem_range] at e
  exact e
theorem firsts_good : ∀ (ms : List Nat) (f : Nat), good f ms = true → ∃ k, firsts (List.range f) ms = List.range k ∧ f ≤ k ∧ ∀ m ∈ ms, m < k
  | [], f, _ => ⟨f, rfl, Nat.le_refl _, by simp⟩
  | m :: r, f, h => by
    rw [good, Bool.and_eq_true, decide_eq_true_iff] at h
    unfold firsts
    by_cases hm : m < f
    · rw [if_pos (List.mem_range.mpr hm)]
      have e : max f (m + 1) = f := by omega
      rw [e] at h
      obtain ⟨k, h1, h2, h3⟩ := firsts_good r f h.2
      exact ⟨k, h1, h2, by grind⟩
    · rw [if_neg fun z => hm (List.mem_range.mp z)]
      have e : max f (m + 1) = f + 1 := by omega
      rw [e] at h
      obtain ⟨k, h1, h2, h3⟩ := firsts_good r (f + 1) h.2
      have e2 : m = f := by omega
      subst e2
      rw [← List.range_succ]
      exact ⟨k, h1, by omega, by grind⟩
theorem canon_good {ms : List Nat} (h : good 0 ms = true) : canon ms = ms := by
  obtain ⟨k, h1, _, h3⟩ := firsts_good ms 0 h
  rw [List.range_zero] at h1
  unfold canon
  rw [h1]
  conv => rhs; rw [← List.map_id ms]
  apply List.map_congr_left
  intro m hm
  exact idxOf_range (h3 m hm)
theorem good_unique {ms ns : List Nat} (h : good 0 ms = true) (h' : good 0 ns = true) (s : Same ms ns) : ms = ns := by
  rw [← canon_good h, ← canon_good h', canon_same s]
theorem canon_eq {κ : Type} [DecidableEq κ] {ms : List Nat} {xs : List κ} (h : good 0 ms = true) (s : Same ms xs) : canon xs = ms := by
  rw [← canon_same s, canon_good h]
/-- finer: alike in the one, alike in the other -/
def Fin (a b : List Nat) : Prop := ∀ i j : Nat, i < a.length → j < a.length → a[i]? = a[j]? → b[i]? = b[j]?
theorem good_app : ∀ (ms : List Nat) (f m : Nat), good f (ms ++ [m]) = (good f ms && decide (m ≤ (ms.foldl (fun f m => max f (m + 1)) f)))
  | [], f, m => by
    rw [List.nil_append, good, good, good, List.foldl_nil, Bool.and_true, Bool.true_and]
  | x :: r, f, m => by
    rw [List.cons_append, good, good, good_app r, List.foldl_cons, Bool.and_assoc]
end Sh

namespace Sh
open PySem PySem.Spec PyProof.Rows L2
/-! ## Spec tools: what a plain function answers -/
theorem fChain_eq (g g' : D → D → Rs Sl) (fa fb fc : Sg → Rs D) (S : Sg) : fChain g g' fa fb fc S = (fa S).bind fun x => (fb S).bind fun y => (g x y).tb.bind fun c => if c = true then (fc S).bind fun z => g' y z else .ok (.sh (.bool false)) := rfl
@[simp] theorem oAdd_int (i j : Int) : oAdd (.int i) (.int j) = okI (i + j) := rfl
theorem oMod_pos (i j : Int) (h : 0 < j) : oMod (.int i) (.int j) = okI (i % j) := by simp [oMod, h]
theorem oDiv_pos (i j : Int) (h : 0 < j) (h' : j < 1073741824) : oDiv (.int i) (.int j) = okI (i / j) := by simp [oDiv, h, h']
theorem oAdd_list (a b : List D) (h : a.length + b.length ≤ LIM) : oAdd (.list a) (.list b) = .ok (.ow (a ++ b)) := by simp [oAdd, h]
theorem sApp_ow {i : Nat} {f : Sg → Rs D} {S : Sg} {ds : List D} {d : D} (h : S[i]? = some (.ow ds)) (hf : f S = .ok d) (hl : ds.length < LIM) : sApp i f S = .nx (S.set i (.ow (ds ++ [d]))) := by
  simp [sApp, h, hf, hl, Rs.thenO]
theorem sApp2_o2 {i : Nat} {f : Sg → Rs Sl} {S : Sg} {dss : List (List D)} {d : List D} (h : S[i]? = some (.o2 dss)) (hf : f S = .ok (.ow d)) (hl : dss.length < LIM) : sApp2 i f S = .nx (S.set i (.o2 (dss ++ [d]))) := by
  simp [sApp2, h, hf, hl, Rs.thenO]
@[simp] theorem oEq_int (i j : Int) : oEq (.int i) (.int j) = okB (decide (i = j)) := by
  have h : ∀ i : Int, SeqAt.shaped (.int i) = true := fun _ => rfl
  simp only [oEq, h, and_self, if_true]
  simp only [PyData.eqv]
  congr 3
@[simp] theorem oNe_int (i j : Int) : oNe (.int i) (.int j) = okB (!decide (i = j)) := by
  have h : ∀ i : Int, SeqAt.shaped (.int i) = true := fun _ => rfl
  simp only [oNe, h, and_self, if_true]
  simp only [PyData.eqv]
  congr 4
@[simp] theorem oEq_bool (i j : Bool) : oEq (.bool i) (.bool j) = okB (i == j) := by
  cases i <;> cases j <;> rfl
@[simp] theorem oNe_bool (i j : Bool) : oNe (.bool i) (.bool j) = okB (!(i == j)) := by
  cases i <;> cases j <;> rfl
/-- an encoding by which == tells what is one -/
structure Cmp {α : Type} (e : α → D) (n : Nat) : Prop where
  lay : ∀ a, (e a).canLay0 = true
  dep : ∀ a, (e a).depth ≤ n
  eqv : ∀ a b, PyData.eqv (e a) (e b) = true ↔ a = b
theorem Cmp.int : Cmp PyData.int 0 := ⟨fun _ => by simp [PyData.canLay0], fun _ => by simp [PyData.depth], fun a b => by simp [PyData.eqv]⟩
theorem Cmp.nat : Cmp (fun n : Nat => PyData.int (n : Int)) 0 := ⟨fun _ => by simp [PyData.canLay0], fun _ => by simp [PyData.depth], fun a b => by simp only [PyData.eqv, beq_iff_eq]; omega⟩
section
variable {α : Type} {e : α → D} {n : Nat}
theorem Cmp.layAll (c : Cmp e n) : ∀ xs : List α, PyData.canLayAll0 (xs.map e) = true
  | [] => by simp [PyData.canLayAll0]
  | x :: r => by simp [PyData.canLayAll0, c.lay x, c.layAll r]
theorem Cmp.depAll (c : Cmp e n) : ∀ xs : List α, PyData.depthAll (xs.map e) ≤ n
  | [] => by simp [PyData.depthAll]
  | x :: r => by
    have h1 := c.dep x
    have h2 := c.depAll r
    simp only [List.map_cons, PyData.depthAll]
    omega
theorem Cmp.eqvAll (c : Cmp e n) : ∀ xs ys : List α, PyData.eqvAll (xs.map e) (ys.map e) = true ↔ xs = ys
  | [], [] => by simp [PyData.eqvAll]
  | [], _ :: _ => by simp [PyData.eqvAll]
  | _ :: _, [] => by simp [PyData.eqvAll]
  | x :: xs, y :: ys => by simp [PyData.eqvAll, c.eqv x y, c.eqvAll xs ys]
theorem Cmp.list (c : Cmp e n) : Cmp (fun xs : List α => PyData.list (xs.map e)) (n + 1) :=
  ⟨fun xs => by simp [PyData.canLay0, c.layAll xs], fun xs => by simp only [PyData.depth]; exact Nat.succ_le_succ (c.depAll xs), fun a b => by simp only [PyData.eqv]; exact c.eqvAll a b⟩
theorem Cmp.tuple (c : Cmp e n) : Cmp (fun xs : List α => PyData.tuple (xs.map e)) (n + 1) :=
  ⟨fun xs => by simp [PyData.canLay0, c.layAll xs], fun xs => by simp only [PyData.depth]; exact Nat.succ_le_succ (c.depAll xs), fun a b => by simp only [PyData.eqv]; exact c.eqvAll a b⟩
theorem Cmp.pair {β : Type} {e' : β → D} (c : Cmp e n) (c' : Cmp e' n) : Cmp (fun p : α × β => PyData.tuple [e p.1, e' p.2]) (n + 1) :=
  ⟨fun p => by simp [PyData.canLay0, PyData.canLayAll0, c.lay, c'.lay], fun p => by
    have h1 := c.dep p.1
    have h2 := c'.dep p.2
    simp only [PyData.depth, PyData.depthAll]
    omega, fun a b => by simp [PyData.eqv, PyData.eqvAll, c.eqv, c'.eqv, Prod.ext_iff]⟩
theorem Cmp.shaped (c : Cmp e n) (h : n ≤ 64) (a : α) : SeqAt.shaped (e a) = true := by
  have := c.dep a
  simp only [SeqAt.shaped, c.lay a, Bool.true_and, decide_eq_true_eq]
  omega
theorem Cmp.eqv' [DecidableEq α] (c : Cmp e n) (a b : α) : PyData.eqv (e a) (e b) = decide (a = b) := by
  rw [Bool.eq_iff_iff, c.eqv, decide_eq_true_eq]
theorem Cmp.oEq [DecidableEq α] (c : Cmp e n) (h : n ≤ 64) (a b : α) : oEq (e a) (e b) = okB (decide (a = b)) := by
  simp only [Sh.oEq, c.shaped h, and_self, if_true, c.eqv']
theorem Cmp.oNe [DecidableEq α] (c : Cmp e n) (h : n ≤ 64) (a b : α) : oNe (e a) (e b) = okB (!decide (a = b)) := by
  simp only [Sh.oNe, c.shaped h, and_self, if_true, c.eqv']
theorem Cmp.any [DecidableEq α] (c : Cmp e n) (xs : List α) (a : α) : ((xs.map e).any fun z => PyData.eqv z (e a)) = decide (a ∈ xs) := by
  rw [Bool.eq_iff_iff, decide_eq_true_eq, List.any_map, List.any_eq_true]
  simp only [Function.comp_def, c.eqv]
  constructor
  · rintro ⟨x, h, rfl⟩; exact h
  · exact fun h => ⟨a, h, rfl⟩
theorem Cmp.oIn [DecidableEq α] (c : Cmp e n) (h : n ≤ 63) (xs : List α) (a : α) : oIn (e a) (.list (xs.map e)) = okB (decide (a ∈ xs)) := by
  have h1 := c.shaped (by omega) a
  have h2 : SeqAt.shaped (.list (xs.map e)) = true := c.list.shaped (by omega) xs
  unfold Sh.oIn
  simp only [h1, h2, and_self, if_true, c.any]
theorem Cmp.oNotIn [DecidableEq α] (c : Cmp e n) (h : n ≤ 63) (xs : List α) (a : α) : oNotIn (e a) (.list (xs.map e)) = okB (!decide (a ∈ xs)) := by
  rw [Sh.oNotIn, c.oIn h]; rfl
theorem Cmp.findIdx [DecidableEq α] (c : Cmp e n) : ∀ (xs : List α) (a : α), a ∈ xs → (xs.map e).findIdx? (fun z => PyData.eqv z (e a)) = some (xs.idxOf a)
  | x :: r, a, h => by
    rw [List.map_cons, List.findIdx?_cons, List.idxOf_cons, c.eqv']
    by_cases q : x = a
    · simp [q]
    · have hr : a ∈ r := by
        rcases List.mem_cons.mp h with h | h
        · exact absurd h.symm q
        · exact h
      have hb : (x == a) = false := by simpa using q
      simp [q, hb, c.findIdx r a hr]
theorem Cmp.index [DecidableEq α] (c : Cmp e n) (h : n ≤ 63) (xs : List α) (a : α) (m : a ∈ xs) : o_index (xs.map e) (e a) = okI (xs.idxOf a : Nat) := by
  have h1 := c.shaped (by omega) a
  have h2 : SeqAt.shaped (.list (xs.map e)) = true := c.list.shaped (by omega) xs
  unfold o_index
  simp only [h1, h2, and_self, if_true, c.findIdx xs a m]
end
/-- a list of numbers from 0 on, as data -/
def L (ms : List Nat) : List D := ms.map fun m : Nat => PyData.int (m : Int)
@[simp] theorem L_length (ms : List Nat) : (L ms).length = ms.length := by simp [L]
@[simp] theorem L_nil : L [] = [] := rfl
@[simp] theorem L_cons (m : Nat) (ms : List Nat) : L (m :: ms) = .int (m : Int) :: L ms := rfl
theorem L_app (a b : List Nat) : L (a ++ b) = L a ++ L b := by simp [L]
theorem L_get (ms : List Nat) (i : Nat) : (L ms)[i]? = (ms[i]?).map fun m : Nat => PyData.int (m : Int) := by simp [L]
theorem L_get' {ms : List Nat} {i : Nat} (h : i < ms.length) : (L ms)[i]? = some (.int (ms[i] : Nat)) := by rw [L_get, List.getElem?_eq_getElem h]; rfl
theorem L_inj {a b : List Nat} (h : L a = L b) : a = b := by
  induction a generalizing b with
  | nil => cases b with
    | nil => rfl
    | cons => simp at h
  | cons x a ih => cases b with
    | nil => simp at h
    | cons y b =>
      simp only [L_cons, List.cons.injEq, PyData.int.injEq] at h
      rw [ih h.2]
      congr 1
      omega
@[simp] theorem L_all (ms : List Nat) : (L ms).all scalD = true := by simp [L, scalD]
theorem L_ints : ∀ ms : List Nat, ints? (L ms) = some (ms.map fun m : Nat => (m : Int))
  | [] => rfl
  | m :: r => by rw [L_cons, ints?, L_ints r]; rfl
theorem cmpL : Cmp (fun ms : List Nat => PyData.list (L ms)) 1 := Cmp.nat.list
@[simp] theorem oEq_L (a b : List Nat) : oEq (.list (L a)) (.list (L b)) = okB (decide (a = b)) := cmpL.oEq (by decide) a b
@[simp] theorem oNe_L (a b : List Nat) : oNe (.list (L a)) (.list (L b)) = okB (!decide (a = b)) := cmpL.oNe (by decide) a b
/-- a list of such lists -/
def LL (mss : List (List Nat)) : List D := mss.map fun ms => PyData.list (L ms)
@[simp] theorem LL_length (ms : List (List Nat)) : (LL ms).length = ms.length := by simp [LL]
@[simp] theorem LL_nil : LL [] = [] := rfl
@[simp] theorem LL_cons (m : List Nat) (ms : List (List Nat)) : LL (m :: ms) = .list (L m) :: LL ms := rfl
theorem LL_app (a b : List (List Nat)) : LL (a ++ b) = LL a ++ LL b := by simp [LL]
theorem cmpLL : Cmp (fun ms : List (List Nat) => PyData.list (LL ms)) 2 := cmpL.list
@[simp] theorem oEq_LL (a b : List (List Nat)) : oEq (.list (LL a)) (.list (LL b)) = okB (decide (a = b)) := cmpLL.oEq (by decide) a b
@[simp] theorem oNe_LL (a b : List (List Nat)) : oNe (.list (LL a)) (.list (LL b)) = okB (!decide (a = b)) := cmpLL.oNe (by decide) a b
theorem LL2 (mss : List (List Nat)) : (mss.map L).map PyData.list = LL mss := by simp [LL, List.map_map, Function.comp_def]
theorem L_range (n : Nat) : ((List.range n).map fun i : Nat => PyData.int (i : Int)) = L (List.range n) := rfl
theorem oIdx_nat {ds : List D} {i : Nat} {d : D} (h : ds[i]? = some d) : oIdx (.list ds) (.int (i : Int)) = .ok (.sh d) := by simp [oIdx, atI_nat h]
theorem oIdxT_nat {ds : List D} {i : Nat} {d : D} (h : ds[i]? = some d) : oIdx (.tuple ds) (.int (i : Int)) = .ok (.sh d) := by simp [oIdx, atI_nat h]
theorem oIdx_L {ms : List Nat} {i : Nat} (h : i < ms.length) : oIdx (.list (L ms)) (.int (i : Int)) = okI (ms[i] : Nat) := oIdx_nat (L_get' h)
theorem oIdx_LL {ms : List (List Nat)} {i : Nat} (h : i < ms.length) : oIdx (.list (LL ms)) (.int (i : Int)) = .ok (.sh (.list (L ms[i]))) := oIdx_nat (by simp [LL, h])
/-! ### loops -/
section
variable {α : Type} {e : α → D} {g : Sg → Out} {j : Nat}
theorem loop_inv (P : List α → Sg → Prop) (xs : List α) (h : ∀ pre x post S, xs = pre ++ x :: post → P pre S → ∃ S', (g (S.set j (.sh (e x))) = .nx S' ∨ g (S.set j (.sh (e x))) = .ct S') ∧ P (pre ++ [x]) S') {S : Sg} (h0 : P [] S) : ∃ S', loopF j g (xs.map e) S = .nx S' ∧ P xs S' := by
  have go : ∀ (post pre : List α) (S : Sg), xs = pre ++ post → P pre S → ∃ S', loopF j g (post.map e) S = .nx S' ∧ P xs S' := by
    intro post
    induction post with
    | nil => intro pre S e1 p; rw [List.append_nil] at e1; subst e1; exact ⟨S, rfl, p⟩
    | cons x r ih =>
      intro pre S e1 p
      obtain ⟨S', hg, p'⟩ := h pre x r S e1 p
      obtain ⟨S2, h2, p2⟩ := ih (pre ++ [x]) S' (by rw [e1, List.append_assoc]; rfl) p'
      refine ⟨S2, ?_, p2⟩
      rw [List.map_cons, loopF]
      rcases hg with hg | hg <;> rw [hg] <;> exact h2
  exact go xs [] S rfl h0
theorem loop_or (P : List α → Sg → Prop) (R : Sl → Prop) (xs : List α) (h : ∀ pre x post S, xs = pre ++ x :: post → P pre S → (∃ S', (g (S.set j (.sh (e x))) = .nx S' ∨ g (S.set j (.sh (e x))) = .ct S') ∧ P (pre ++ [x]) S') ∨ ∃ r, g (S.set j (.sh (e x))) = .rt r ∧ R r) {S : Sg} (h0 : P [] S) : (∃ S', loopF j g (xs.map e) S = .nx S' ∧ P xs S') ∨ ∃ r, loopF j g (xs.map e) S = .rt r ∧ R r := by
  have go : ∀ (post pre : List α) (S : Sg), xs = pre ++ post → P pre S → (∃ S', loopF j g (post.map e) S = .nx S' ∧ P xs S') ∨ ∃ r, loopF j g (post.map e) S = .rt r ∧ R r := by
    intro post
    induction post with
    | nil => intro pre S e1 p; rw [List.append_nil] at e1; subst e1; exact .inl ⟨S, rfl, p⟩
    | cons x r ih =>
      intro pre S e1 p
      rw [List.map_cons, loopF]
      rcases h pre x r S e1 p with ⟨S', hg, p'⟩ | ⟨r', hg, q⟩
      · have := ih (pre ++ [x]) S' (by rw [e1, List.append_assoc]; rfl) p'
        rcases hg with hg | hg <;> rw [hg] <;> exact this
      · rw [hg]; exact .inr ⟨r', rfl, q⟩
  exact go xs [] S rfl h0
theorem loop_ex (P : List α → Sg → Prop) (R : Out → Prop) (xs : List α) (h : ∀ pre x post S, xs = pre ++ x :: post → P pre S → (∃ S', (g (S.set j (.sh (e x))) = .nx S' ∨ g (S.set j (.sh (e x))) = .ct S') ∧ P (pre ++ [x]) S') ∨ ∃ c S', g (S.set j (.sh (e x))) = .ex c S' ∧ R (.ex c S')) {S : Sg} (h0 : P [] S) : (∃ S', loopF j g (xs.map e) S = .nx S' ∧ P xs S') ∨ R (loopF j g (xs.map e) S) := by
  have go : ∀ (post pre : List α) (S : Sg), xs = pre ++ post → P pre S → (∃ S', loopF j g (post.map e) S = .nx S' ∧ P xs S') ∨ R (loopF j g (post.map e) S) := by
    intro post
    induction post with
    | nil => intro pre S e1 p; rw [List.append_nil] at e1; subst e1; exact .inl ⟨S, rfl, p⟩
    | cons x r ih =>
      intro pre S e1 p
      rw [List.map_cons, loopF]
      rcases h pre x r S e1 p with ⟨S', hg, p'⟩ | ⟨c, S', hg, q⟩
      · have := ih (pre ++ [x]) S' (by rw [e1, List.append_assoc]; rfl) p'
        rcases hg with hg | hg <;> rw [hg] <;> exact this
      · rw [hg]; exact .inr q
  exact go xs [] S rfl h0
end
section
variable {g : Sg → Out} {j : Nat}
theorem range_split {n : Nat} {pre post : List Nat} {x : Nat} (h : List.range n = pre ++ x :: post) : pre = List.range x ∧ x < n := by
  have h1 : x = pre.length := by
    have := congrArg (fun l => l[pre.length]?) h
    simp only [List.getElem?_append_right (Nat.le_refl _), Nat.sub_self, List.getElem?_cons_zero] at this
    rw [List.getElem?_range (by
      have := congrArg List.length h
      simp at this
      omega)] at this
    injection this with this
    exact this.symm
  have h2 : x < n := by
    have := congrArg List.length h
    simp at this
    omega
  refine ⟨?_, h2⟩
  apply List.ext_getElem?
  intro i
  have this : (List.range n)[i]? = (pre ++ x :: post)[i]? := congrArg (fun l => l[i]?) h
  by_cases q : i < pre.length
  · rw [List.getElem?_append_left q] at this
    rw [← this, List.getElem?_range (by omega), List.getElem?_range (by omega)]
  · rw [List.getElem?_eq_none (by omega), List.getElem?_eq_none (by simp; omega)]
/-- a loop over range(n) -/
theorem rng_inv (P : Nat → Sg → Prop) (n : Nat) (h : ∀ i S, i < n → P i S → ∃ S', (g (S.set j (.sh (.int (i : Int)))) = .nx S' ∨ g (S.set j (.sh (.int (i : Int)))) = .ct S') ∧ P (i + 1) S') {S : Sg} (h0 : P 0 S) : ∃ S', loopF j g (L (List.range n)) S = .nx S' ∧ P n S' := by
  have := loop_inv (e := fun m : Nat => PyData.int (m : Int)) (g := g) (j := j) (fun pre S => P pre.length S) (List.range n) (fun pre x post S e p => by
    obtain ⟨h1, h2⟩ := range_split e
    subst h1
    simp only [List.length_range, List.length_append, List.length_singleton] at p ⊢
    exact h x S h2 p) (S := S) h0
  simp only [List.length_range] at this
  exact this
theorem rng_or (P : Nat → Sg → Prop) (R : Sl → Prop) (n : Nat) (h : ∀ i S, i < n → P i S → (∃ S', (g (S.set j (.sh (.int (i : Int)))) = .nx S' ∨ g (S.set j (.sh (.int (i : Int)))) = .ct S') ∧ P (i + 1) S') ∨ ∃ r, g (S.set j (.sh (.int (i : Int)))) = .rt r ∧ R r) {S : Sg} (h0 : P 0 S) : (∃ S', loopF j g (L (List.range n)) S = .nx S' ∧ P n S') ∨ ∃ r, loopF j g (L (List.range n)) S = .rt r ∧ R r := by
  have := loop_or (e := fun m : Nat => PyData.int (m : Int)) (g := g) (j := j) (fun pre S => P pre.length S) R (List.range n) (fun pre x post S e p => by
    obtain ⟨h1, h2⟩ := range_split e
    subst h1
    simp only [List.length_range, List.length_append, List.length_singleton] at p ⊢
    exact h x S h2 p) (S := S) h0
  simp only [List.length_range] at this
  exact this
end
/-! ### comprehensions -/
section
variable {α : Type} {e : α → D} {j : Nat} {t : Sg → Rs Bool} {f : Sg → Rs D} {S : Sg}
theorem compF_filter {b : α → Bool} {y : α → D} : ∀ (xs : List α) (out : List D), (∀ x ∈ xs, t (S.set j (.sh (e x))) = .ok (b x)) → (∀ x ∈ xs, b x = true → f (S.set j (.sh (e x))) = .ok (y x)) → compF j t f S (xs.map e) out = .ok (out ++ (xs.filter b).map y)
  | [], out, _, _ => by simp [compF]
  | x :: r, out, h1, h2 => by
    rw [List.map_cons, compF, h1 x (List.mem_cons_self ..)]
    simp only [Rs.bind]
    by_cases hb : b x = true
    · rw [if_pos hb, h2 x (List.mem_cons_self ..) hb]
      simp only []
      rw [compF_filter r _ (fun z m => h1 z (List.mem_cons_of_mem _ m)) (fun z m => h2 z (List.mem_cons_of_mem _ m)), List.filter_cons_of_pos hb]
      simp
    · rw [if_neg hb, compF_filter r _ (fun z m => h1 z (List.mem_cons_of_mem _ m)) (fun z m => h2 z (List.mem_cons_of_mem _ m)), List.filter_cons_of_neg hb]
theorem compF_map {y : α → D} (xs : List α) (out : List D) (h : ∀ x ∈ xs, f (S.set j (.sh (e x))) = .ok (y x)) : compF j tTrue f S (xs.map e) out = .ok (out ++ xs.map y) := by
  have := compF_filter (e := e) (j := j) (t := tTrue) (f := f) (S := S) (b := fun _ => true) (y := y) xs out (fun _ _ => rfl) (fun x m _ => h x m)
  rw [this, List.filter_eq_self.mpr (fun _ _ => rfl)]
theorem fComp_filter {it : Sg → Rs (List D)} {b : α → Bool} {y : α → D} (xs : List α) (hi : it S = .ok (xs.map e)) (hl : xs.length ≤ LIM) (h1 : ∀ x ∈ xs, t (S.set j (.sh (e x))) = .ok (b x)) (h2 : ∀ x ∈ xs, b x = true → f (S.set j (.sh (e x))) = .ok (y x)) : fComp j it t f S = .ok (.ow ((xs.filter b).map y)) := by
  unfold fComp
  rw [hi]
  simp only [Rs.bind, List.length_map, hl, if_true]
  rw [compF_filter (e := e) (b := b) (y := y) xs [] (by simpa only [List.set_set] using h1) (by simpa only [List.set_set] using h2)]
  simp [noExC]
theorem fComp_map {it : Sg → Rs (List D)} {y : α → D} (xs : List α) (hi : it S = .ok (xs.map e)) (hl : xs.length ≤ LIM) (h : ∀ x ∈ xs, f (S.set j (.sh (e x))) = .ok (y x)) : fComp j it tTrue f S = .ok (.ow (xs.map y)) := by
  rw [fComp_filter (e := e) (b := fun _ => true) (y := y) xs hi hl (fun _ _ => rfl) (fun x m _ => h x m), List.filter_eq_self.mpr (fun _ _ => rfl)]
end
section
variable {α : Type} {e : α → D} {j : Nat} {f : Sg → Rs Sl} {S : Sg}
theorem compF2_map {y : α → List D} : ∀ (xs : List α) (out : List (List D)), (∀ x ∈ xs, f (S.set j (.sh (e x))) = .ok (.ow (y x))) → compF2 j f S (xs.map e) out = .ok (out ++ xs.map y)
  | [], out, _ => by simp [compF2]
  | x :: r, out, h => by
    rw [List.map_cons, compF2, h x (List.mem_cons_self ..)]
    simp only [Rs.bind]
    rw [compF2_map r _ fun z m => h z (List.mem_cons_of_mem _ m)]
    simp
theorem fComp2_map {it : Sg → Rs (List D)} {y : α → List D} (xs : List α) (hi : it S = .ok (xs.map e)) (hl : xs.length ≤ LIM) (h : ∀ x ∈ xs, f (S.set j (.sh (e x))) = .ok (.ow (y x))) : fComp2 j it f S = .ok (.o2 (xs.map y)) := by
  unfold fComp2
  rw [hi]
  simp only [Rs.bind, List.length_map, hl, if_true]
  rw [compF2_map (e := e) (y := y) xs [] (by simpa only [List.set_set] using h)]
  simp [noExC]
end
/-! ### firsts, dicts, sharings -/
section
variable {α : Type} [DecidableEq α]
theorem firsts_snoc : ∀ (pre s : List α) (x : α), firsts s (pre ++ [x]) = if x ∈ firsts s pre then firsts s pre else firsts s pre ++ [x]
  | [], s, x => by
    show (if x ∈ s then firsts s [] else firsts (s ++ [x]) []) = if x ∈ firsts s [] then firsts s [] else firsts s [] ++ [x]
    rfl
  | y :: r, s, x => by
    rw [List.cons_append]
    unfold firsts
    split
    · exact firsts_snoc r s x
    · exact firsts_snoc r (s ++ [y]) x
theorem firsts_len : ∀ (pre s : List α), (firsts s pre).length ≤ s.length + pre.length
  | [], s => by simp [firsts]
  | y :: r, s => by
    unfold firsts
    split
    · have := firsts_len r s
      simp only [List.length_cons]; omega
    · have := firsts_len r (s ++ [y])
      simp only [List.length_cons, List.length_append, List.length_nil] at this ⊢; omega
end
section
variable {κ : Type} [DecidableEq κ]
theorem valD_any {κ : Type} [DecidableEq κ] : ∀ (kvs : List (κ × D)) (k : κ), (valD kvs k).isSome = kvs.any fun kv => decide (kv.1 = k)
  | [], k => rfl
  | a :: r, k => by
    have ih := valD_any r k
    unfold valD at ih ⊢
    rw [List.find?_cons, List.any_cons]
    by_cases h : a.1 = k
    · simp [h]
    · simp only [h, decide_false, Bool.false_or]
      exact ih
theorem valD_put (kvs : List (κ × D)) (k : κ) (v : D) (k' : κ) : valD (putD kvs k v) k' = if k' = k then some v else valD kvs k' := by
  unfold putD
  by_cases h : (kvs.any fun kv => decide (kv.1 = k)) = true
  · rw [if_pos h]
    induction kvs with
    | nil => simp at h
    | cons a r ih =>
      unfold valD
      rw [List.map_cons, List.find?_cons]
      by_cases q : a.1 = k
      · by_cases q2 : k' = k
        · subst q2
          simp [q]
        · have q3 : ¬ k = k' := fun z => q2 z.symm
          simp only [q, if_true, q2, q3, if_false, decide_false, List.find?_cons]
          have hh : ∀ r : List (κ × D), (List.find? (fun kv => decide (kv.1 = k')) (r.map fun kv => if kv.1 = k then (kv.1, v) else kv)) = List.find? (fun kv => decide (kv.1 = k')) r := by
            intro r
            induction r with
            | nil => rfl
            | cons b r ih2 =>
              rw [List.map_cons, List.find?_cons, List.find?_cons, ih2]
              by_cases z : b.1 = k
              · have z2 : ¬ b.1 = k' := fun y => q3 (z.symm.trans y)
                simp [z, q3]
              · simp [z]
          rw [hh]
      · have h' : (r.any fun kv => decide (kv.1 = k)) = true := by simpa [q] using h
        have ih' := ih h'
        unfold valD at ih'
        by_cases q2 : a.1 = k'
        · subst q2
          simp [q]
        · simp only [q, if_false, q2, decide_false, List.find?_cons]
          exact ih'
  · rw [if_neg h]
    unfold valD
    rw [List.find?_append]
    by_cases q : k' = k
    · subst q
      have : List.find? (fun kv => decide (kv.1 = k')) kvs = none := by
        rw [List.find?_eq_none]
        intro x hx hh
        exact h (List.any_eq_true.mpr ⟨x, hx, hh⟩)
      simp [this]
    · have q3 : ¬ k = k' := fun z => q z.symm
      simp [q, q3]
theorem put_len (kvs : List (κ × D)) (k : κ) (v : D) : (putD kvs k v).length ≤ kvs.length + 1 := by
  unfold putD
  split <;> simp
end
def fre (ms : List Nat) : Nat := ms.foldl (fun f m => max f (m + 1)) 0
theorem fre_app (ms : List Nat) (m : Nat) : fre (ms ++ [m]) = max (fre ms) (m + 1) := by simp [fre]
theorem good_snoc (ms : List Nat) (m : Nat) : good 0 (ms ++ [m]) = (good 0 ms && decide (m ≤ fre ms)) := good_app ms 0 m
/-- a sharing -/
structure Shg (ms : List Nat) : Prop where
  pos : 1 ≤ ms.length
  le : ms.length ≤ 12
  good : good 0 ms = true
/-! ### the script -/
def cellZ (ns : List Int) (k : Int) : Int := ns.getD k.toNat 0
theorem atI_lt {ns : List Int} {k : Int} (h0 : 0 ≤ k) (h : k < ns.length) : atI (ns.map PyData.int) k = some (.int (cellZ ns k)) := by
  have hk : k.toNat < ns.length := by omega
  have this := atI_nat (List.getElem?_eq_getElem hk)
  rw [Int.toNat_of_nonneg h0] at this
  rw [atI_map]
  rw [this]
  unfold cellZ
  rw [List.getD_eq_getElem?_getD, List.getElem?_eq_getElem hk]
  rfl
end Sh

namespace Sh
open PySem PySem.Spec PyProof.Rows L2
/-! ## Plain: finer, meetings, joinings -/
theorem Fin.refl (a : List Nat) : Fin a a := fun _ _ _ _ h => h
theorem Fin.trans {a b c : List Nat} (e : a.length = b.length) (h : Fin a b) (g : Fin b c) : Fin a c := fun i j hi hj q => g i j (by omega) (by omega) (h i j hi hj q)
theorem Fin.anti {a b : List Nat} (e : a.length = b.length) (ha : good 0 a = true) (hb : good 0 b = true) (h : Fin a b) (g : Fin b a) : a = b :=
  good_unique ha hb ⟨e, fun i j hi hj => ⟨h i j hi hj, g i j (by omega) (by omega)⟩⟩
theorem Same.fin {a b : List Nat} (s : Same a b) : Fin a b := fun i j hi hj q => (s.2 i j hi hj).mp q
theorem shg_canon {α : Type} [DecidableEq α] {xs : List α} (h1 : 1 ≤ xs.length) (h2 : xs.length ≤ 12) : Shg (canon xs) := ⟨by simpa using h1, by simpa using h2, good_canon xs⟩
/-- c is the meeting -/
structure Mee (a b c : List Nat) : Prop where
  len : c.length = a.length
  good : good 0 c = true
  pt : ∀ i j : Nat, i < a.length → j < a.length → (c[i]? = c[j]? ↔ a[i]? = a[j]? ∧ b[i]? = b[j]?)
theorem Mee.uniq {a b c d : List Nat} (h : Mee a b c) (g : Mee a b d) : c = d :=
  good_unique h.good g.good ⟨h.len.trans g.len.symm, fun i j hi hj => (h.pt i j (h.len ▸ hi) (h.len ▸ hj)).trans (g.pt i j (h.len ▸ hi) (h.len ▸ hj)).symm⟩
theorem Mee.symm {a b c : List Nat} (e : a.length = b.length) (h : Mee a b c) : Mee b a c :=
  ⟨h.len.trans e, h.good, fun i j hi hj => (h.pt i j (e ▸ hi) (e ▸ hj)).trans And.comm⟩
theorem Mee.l {a b c : List Nat} (h : Mee a b c) : Fin c a := fun i j hi hj q => ((h.pt i j (h.len ▸ hi) (h.len ▸ hj)).mp q).1
theorem Mee.r {a b c : List Nat} (h : Mee a b c) : Fin c b := fun i j hi hj q => ((h.pt i j (h.len ▸ hi) (h.len ▸ hj)).mp q).2
theorem Mee.big {a b c z : List Nat} (h : Mee a b c) (e : z.length = a.length) (f : Fin z a) (g : Fin z b) : Fin z c := fun i j hi hj q => (h.pt i j (e ▸ hi) (e ▸ hj)).mpr ⟨f i j hi hj q, g i j hi hj q⟩
theorem mee_canon (a b : List Nat) (e : a.length = b.length) : Mee a b (canon ((List.range a.length).map fun i => (a.getD i 0, b.getD i 0))) := by
  refine ⟨by simp, good_canon _, fun i j hi hj => ?_⟩
  have s := (same_canon ((List.range a.length).map fun i => (a.getD i 0, b.getD i 0))).2 i j (by simpa using hi) (by simpa using hj)
  rw [← s]
  simp [List.getElem?_map, List.getElem?_range hi, List.getElem?_range hj, hi, hj, e ▸ hi, e ▸ hj, List.getElem?_eq_getElem]
/-- c is the joining -/
structure Joi (a b c : List Nat) : Prop where
  len : c.length = a.length
  good : good 0 c = true
  l : Fin a c
  r : Fin b c
  small : ∀ z : List Nat, z.length = a.length → Fin a z → Fin b z → Fin c z
theorem Joi.uniq {a b c d : List Nat} (h : Joi a b c) (g : Joi a b d) : c = d :=
  Fin.anti (h.len.trans g.len.symm) h.good g.good (h.small d g.len g.l g.r) (g.small c h.len h.l h.r)
theorem Joi.symm {a b c : List Nat} (e : a.length = b.length) (h : Joi a b c) : Joi b a c :=
  ⟨h.len.trans e, h.good, h.r, h.l, fun z hz f g => h.small z (hz.trans e.symm) g f⟩
/-- labels that are a joining, but for their names -/
theorem Joi.canon {a b : List Nat} {xs : List Nat} (e : a.length = b.length) (hl : xs.length = a.length) (f : Fin a xs) (g : Fin b xs) (s : ∀ z : List Nat, z.length = a.length → Fin a z → Fin b z → Fin xs z) : Joi a b (canon xs) := by
  have sm := same_canon xs
  exact ⟨by simp [hl], good_canon xs, f.trans hl.symm sm.fin, g.trans (by omega) sm.fin, fun z hz h1 h2 => (sm.symm.fin).trans (by simp) (s z hz h1 h2)⟩
/-- what merging does to the labels -/
theorem merge_fin {f : List Nat} (x y : Nat) : Fin f (canon (f.map fun m => if m = y then x else m)) := by
  refine Fin.trans (b := f.map fun m => if m = y then x else m) (by simp) (fun i j hi hj q => ?_) (same_canon _).fin
  simp [List.getElem?_map, q]
theorem merge_one {f : List Nat} {i j x y : Nat} (hx : f[i]? = some x) (hy : f[j]? = some y) : (canon (f.map fun m => if m = y then x else m))[i]? = (canon (f.map fun m => if m = y then x else m))[j]? := by
  have hi : i < f.length := by
    rcases Nat.lt_or_ge i f.length with h | h
    · exact h
    · rw [List.getElem?_eq_none h] at hx; cases hx
  have hj : j < f.length := by
    rcases Nat.lt_or_ge j f.length with h | h
    · exact h
    · rw [List.getElem?_eq_none h] at hy; cases hy
  rw [← (same_canon _).2 i j (by simpa using hi) (by simpa using hj)]
  simp [List.getElem?_map, hx, hy]
theorem merge_small {f z : List Nat} {i j x y : Nat} (e : z.length = f.length) (hx : f[i]? = some x) (hy : f[j]? = some y) (hz : z[i]? = z[j]?) (h : Fin f z) : Fin (canon (f.map fun m => if m = y then x else m)) z := by
  refine Fin.trans (b := f.map fun m => if m = y then x else m) (by simp) (same_canon _).symm.fin fun k l hk hl q => ?_
  simp only [List.length_map] at hk hl
  have hi : i < f.length := by
    rcases Nat.lt_or_ge i f.length with h | h
    · exact h
    · rw [List.getElem?_eq_none h] at hx; cases hx
  have hj : j < f.length := by
    rcases Nat.lt_or_ge j f.length with h | h
    · exact h
    · rw [List.getElem?_eq_none h] at hy; cases hy
  have gk := List.getElem?_eq_getElem hk
  have gl := List.getElem?_eq_getElem hl
  rw [List.getElem?_map, List.getElem?_map, gk, gl] at q
  simp only [Option.map_some, Option.some.injEq] at q
  by_cases h1 : f[k] = y
  · have z1 : z[k]? = z[j]? := h k j hk hj (by rw [gk, hy, h1])
    by_cases h2 : f[l] = y
    · have z2 : z[l]? = z[j]? := h l j hl hj (by rw [gl, hy, h2])
      rw [z1, z2]
    · rw [if_pos h1, if_neg h2] at q
      have z2 : z[l]? = z[i]? := h l i hl hi (by rw [gl, hx, ← q])
      rw [z1, z2, hz]
  · by_cases h2 : f[l] = y
    · rw [if_neg h1, if_pos h2] at q
      have z1 : z[k]? = z[i]? := h k i hk hi (by rw [gk, hx, q])
      have z2 : z[l]? = z[j]? := h l j hl hj (by rw [gl, hy, h2])
      rw [z1, z2, hz]
    · rw [if_neg h1, if_neg h2] at q
      exact h k l hk hl (by rw [gk, gl, q])
theorem fre_fold : ∀ (ms : List Nat) (f : Nat), f ≤ ms.foldl (fun f m => max f (m + 1)) f ∧ (∀ m ∈ ms, m < ms.foldl (fun f m => max f (m + 1)) f) ∧ (ms.foldl (fun f m => max f (m + 1)) f = f ∨ ∃ m ∈ ms, ms.foldl (fun f m => max f (m + 1)) f = m + 1)
  | [], f => ⟨Nat.le_refl _, by simp, .inl rfl⟩
  | x :: r, f => by
    obtain ⟨h1, h2, h3⟩ := fre_fold r (max f (x + 1))
    rw [List.foldl_cons]
    refine ⟨by omega, fun m hm => ?_, ?_⟩
    · rcases List.mem_cons.mp hm with rfl | hm
      · omega
      · exact h2 m hm
    · rcases h3 with h3 | ⟨m, hm, h3⟩
      · rcases Nat.le_total f (x + 1) with q | q
        · exact .inr ⟨x, List.mem_cons_self .., by omega⟩
        · exact .inl (by omega)
      · exact .inr ⟨m, List.mem_cons_of_mem _ hm, h3⟩
theorem fre_lt {ms : List Nat} {m : Nat} (h : m ∈ ms) : m < fre ms := (fre_fold ms 0).2.1 m h
theorem fre_mem {ms : List Nat} (h : 1 ≤ ms.length) : ∃ m ∈ ms, fre ms = m + 1 := by
  rcases (fre_fold ms 0).2.2 with h1 | h1
  · cases ms with
    | nil => simp at h
    | cons x r =>
      have h2 := (fre_fold (x :: r) 0).2.1 x (List.mem_cons_self ..)
      omega
  · exact h1
theorem fre_get {ms : List Nat} {i m : Nat} (h : ms[i]? = some m) : m < fre ms := fre_lt (List.mem_of_getElem? h)
theorem fre_le {ms : List Nat} (h : good 0 ms = true) : fre ms ≤ ms.length := by
  have go : ∀ (ms : List Nat) (f : Nat), good f ms = true → ms.foldl (fun f m => max f (m + 1)) f ≤ f + ms.length := by
    intro ms
    induction ms with
    | nil => intro f _; simp
    | cons x r ih =>
      intro f h
      rw [good, Bool.and_eq_true, decide_eq_true_iff] at h
      have := ih _ h.2
      rw [List.foldl_cons, List.length_cons]
      omega
  have := go ms 0 h
  unfold fre; omega
theorem oMax_L {ms : List Nat} (h : 1 ≤ ms.length) : oMax [.list (L ms)] = okI ((fre ms : Int) - 1) := by
  have e : (ms.map fun m : Nat => (m : Int)).max? = some ((fre ms : Int) - 1) := by
    rw [List.max?_eq_some_iff]
    obtain ⟨m, hm, e⟩ := fre_mem h
    refine ⟨List.mem_map.mpr ⟨m, hm, by omega⟩, fun b hb => ?_⟩
    obtain ⟨m', hm', rfl⟩ := List.mem_map.mp hb
    have := fre_lt hm'
    omega
  simp [oMax, L_ints, e]
/-- the things of share k among the first i -/
def shr (ms : List Nat) (i k : Nat) : List Nat := (List.range i).filter fun t => decide (ms[t]? = some k)
theorem shr_succ (ms : List Nat) (i k : Nat) : shr ms (i + 1) k = if ms[i]? = some k then shr ms i k ++ [i] else shr ms i k := by
  unfold shr
  rw [List.range_succ, List.filter_append]
  by_cases h : ms[i]? = some k
  · simp [h]
  · simp [h]
theorem mem_shr {ms : List Nat} {i k t : Nat} : t ∈ shr ms i k ↔ t < i ∧ ms[t]? = some k := by simp [shr]
def shs (ms : List Nat) : List (List Nat) := (List.range (fre ms)).map fun k => shr ms ms.length k
theorem shr_len (ms : List Nat) (i k : Nat) : (shr ms i k).length ≤ i := by
  have := List.length_filter_le (fun t => decide (ms[t]? = some k)) (List.range i)
  rw [List.length_range] at this
  exact this
theorem map_range_set {α : Type} {n k : Nat} {f g : Nat → α} (hk : k < n) (h : ∀ j, j ≠ k → f j = g j) : ((List.range n).map f).set k (g k) = (List.range n).map g := by
  apply List.ext_getElem?
  intro i
  by_cases hi : i = k
  · subst hi
    rw [List.getElem?_set_self (by simpa using hk), List.getElem?_map, List.getElem?_range hk]; rfl
  · rw [List.getElem?_set_ne (fun z => hi z.symm), List.getElem?_map, List.getElem?_map]
    by_cases hn : i < n
    · rw [List.getElem?_range hn]; simp [h i hi]
    · rw [List.getElem?_eq_none (by simp; omega)]; rfl
/-- a loop with a measure -/
theorem while_dn {t : Sg → Rs Bool} {g : Sg → Out} (P : Nat → Sg → Prop) (Q : Sg → Prop) (h : ∀ k S, P k S → (t S = .ok false ∧ Q S) ∨ (t S = .ok true ∧ ∃ S' k', (g S = .nx S' ∨ g S = .ct S') ∧ k' < k ∧ P k' S')) : ∀ (n k : Nat) (S : Sg), P k S → k < n → ∃ S', whileF t g n S = .nx S' ∧ Q S'
  | 0, _, _, _, hk => by omega
  | n + 1, k, S, p, hk => by
    rw [whileF]
    rcases h k S p with ⟨h1, q⟩ | ⟨h1, S', k', h2, h3, p'⟩
    · rw [h1]; exact ⟨S, by simp [Rs.thenO], q⟩
    · rw [h1]
      obtain ⟨S2, e, q⟩ := while_dn P Q h n k' S' p' (by omega)
      refine ⟨S2, ?_, q⟩
      simp only [Rs.thenO, if_true]
      rcases h2 with h2 | h2 <;> rw [h2] <;> exact e
end Sh

namespace Sh
open PySem PySem.Spec PyProof.Rows L2
/-! ## More spec tools: loops that may raise, lists of whole numbers, sorting -/
section
variable {α : Type} {e : α → D} {g : Sg → Out} {j : Nat}
theorem loop_exc (P : List α → Sg → Prop) (R : Nat → Prop) (xs : List α) (h : ∀ pre x post S, xs = pre ++ x :: post → P pre S → (∃ S', (g (S.set j (.sh (e x))) = .nx S' ∨ g (S.set j (.sh (e x))) = .ct S') ∧ P (pre ++ [x]) S') ∨ ∃ c S', g (S.set j (.sh (e x))) = .ex c S' ∧ R c) {S : Sg} (h0 : P [] S) : (∃ S', loopF j g (xs.map e) S = .nx S' ∧ P xs S') ∨ ∃ c S', loopF j g (xs.map e) S = .ex c S' ∧ R c := by
  have go : ∀ (post pre : List α) (S : Sg), xs = pre ++ post → P pre S → (∃ S', loopF j g (post.map e) S = .nx S' ∧ P xs S') ∨ ∃ c S', loopF j g (post.map e) S = .ex c S' ∧ R c := by
    intro post
    induction post with
    | nil => intro pre S e1 p; rw [List.append_nil] at e1; subst e1; exact .inl ⟨S, rfl, p⟩
    | cons x r ih =>
      intro pre S e1 p
      rw [List.map_cons, loopF]
      rcases h pre x r S e1 p with ⟨S', hg, p'⟩ | ⟨c, S', hg, q⟩
      · have := ih (pre ++ [x]) S' (by rw [e1, List.append_assoc]; rfl) p'
        rcases hg with hg | hg <;> rw [hg] <;> exact this
      · rw [hg]; exact .inr ⟨c, S', rfl, q⟩
  exact go xs [] S rfl h0
theorem rng_exc (P : Nat → Sg → Prop) (R : Nat → Prop) (n : Nat) (h : ∀ i S, i < n → P i S → (∃ S', (g (S.set j (.sh (.int (i : Int)))) = .nx S' ∨ g (S.set j (.sh (.int (i : Int)))) = .ct S') ∧ P (i + 1) S') ∨ ∃ c S', g (S.set j (.sh (.int (i : Int)))) = .ex c S' ∧ R c) {S : Sg} (h0 : P 0 S) : (∃ S', loopF j g (L (List.range n)) S = .nx S' ∧ P n S') ∨ ∃ c S', loopF j g (L (List.range n)) S = .ex c S' ∧ R c := by
  have := loop_exc (e := fun m : Nat => PyData.int (m : Int)) (g := g) (j := j) (fun pre S => P pre.length S) R (List.range n) (fun pre x post S e p => by
    obtain ⟨h1, h2⟩ := range_split e
    subst h1
    simp only [List.length_range, List.length_append, List.length_singleton] at p ⊢
    exact h x S h2 p) (S := S) h0
  simp only [List.length_range] at this
  exact this
end
/-- a list of whole numbers, as data -/
def IL (ns : List Int) : List D := ns.map PyData.int
@[simp] theorem IL_length (ms : List Int) : (IL ms).length = ms.length := by simp [IL]
@[simp] theorem IL_nil : IL [] = [] := rfl
@[simp] theorem IL_cons (m : Int) (ms : List Int) : IL (m :: ms) = .int m :: IL ms := rfl
theorem IL_app (a b : List Int) : IL (a ++ b) = IL a ++ IL b := by simp [IL]
theorem IL_get (ms : List Int) (i : Nat) : (IL ms)[i]? = (ms[i]?).map PyData.int := by simp [IL]
@[simp] theorem IL_all (ms : List Int) : (IL ms).all scalD = true := by simp [IL, scalD]
theorem IL_ints (ms : List Int) : ints? (IL ms) = some ms := ints_map ms
theorem cmpI : Cmp (fun ms : List Int => PyData.list (IL ms)) 1 := Cmp.int.list
@[simp] theorem oEq_IL (a b : List Int) : oEq (.list (IL a)) (.list (IL b)) = okB (decide (a = b)) := cmpI.oEq (by decide) a b
@[simp] theorem oNe_IL (a b : List Int) : oNe (.list (IL a)) (.list (IL b)) = okB (!decide (a = b)) := cmpI.oNe (by decide) a b
def ILL (mss : List (List Int)) : List D := mss.map fun ms => PyData.list (IL ms)
@[simp] theorem ILL_length (ms : List (List Int)) : (ILL ms).length = ms.length := by simp [ILL]
theorem ILL_get (ms : List (List Int)) (i : Nat) : (ILL ms)[i]? = (ms[i]?).map fun m => PyData.list (IL m) := by simp [ILL]
theorem cmpII : Cmp (fun ms : List (List Int) => PyData.list (ILL ms)) 2 := cmpI.list
@[simp] theorem oEq_ILL (a b : List (List Int)) : oEq (.list (ILL a)) (.list (ILL b)) = okB (decide (a = b)) := cmpII.oEq (by decide) a b
@[simp] theorem oNe_ILL (a b : List (List Int)) : oNe (.list (ILL a)) (.list (ILL b)) = okB (!decide (a = b)) := cmpII.oNe (by decide) a b
def zs (ms : List Nat) : List Int := ms.map fun m : Nat => (m : Int)
theorem L_IL (ms : List Nat) : L ms = IL (zs ms) := by simp [L, IL, zs, Function.comp_def]
theorem LL_ILL (mss : List (List Nat)) : LL mss = ILL (mss.map zs) := by simp [LL, ILL, L_IL, Function.comp_def]
@[simp] theorem zs_length (ms : List Nat) : (zs ms).length = ms.length := by simp [zs]
theorem zs_inj {a b : List Nat} (h : zs a = zs b) : a = b := L_inj (by rw [L_IL, L_IL, h])
theorem mem_zs {ms : List Nat} {t : Nat} : (t : Int) ∈ zs ms ↔ t ∈ ms := by
  unfold zs
  rw [List.mem_map]
  constructor
  · rintro ⟨a, h, e⟩
    have : a = t := by omega
    subst this; exact h
  · exact fun h => ⟨t, h, rfl⟩
/-! sorting -/
theorem ins_comm (x y : Int) : ∀ l : List Int, ins x (ins y l) = ins y (ins x l)
  | [] => by
    simp only [ins]
    by_cases h1 : x ≤ y <;> by_cases h2 : y ≤ x <;> simp [h1, h2]
    · omega
    · omega
  | z :: r => by
    have ih := ins_comm x y r
    by_cases h1 : x ≤ z <;> by_cases h2 : y ≤ z <;> by_cases h3 : x ≤ y <;> by_cases h4 : y ≤ x <;> simp [ins, h1, h2, h3, h4, ih] <;> omega
theorem isort_congr {a b : List Int} (h : a.Perm b) : isort a = isort b := by
  induction h with
  | nil => rfl
  | cons x _ ih => simp only [isort, ih]
  | swap x y l => simp only [isort, ins_comm]
  | trans _ _ ih1 ih2 => exact ih1.trans ih2
theorem isort_range : ∀ n : Nat, n ≤ 12 → isort (zs (List.range n)) = zs (List.range n) := by decide
theorem isort_iff {w : List Int} {n : Nat} (hn : n ≤ 12) : isort w = zs (List.range n) ↔ w.Perm (zs (List.range n)) := by
  constructor
  · intro h
    rw [← h]; exact (isort_perm w).symm
  · intro h
    rw [isort_congr h, isort_range n hn]
theorem zs_perm {a b : List Nat} (h : a.Perm b) : (zs a).Perm (zs b) := h.map _
theorem zs_flatten (mss : List (List Nat)) : (mss.map zs).flatten = zs mss.flatten := by
  unfold zs
  rw [List.map_flatten]
theorem mem_zrange {x : Int} {n : Nat} : x ∈ zs (List.range n) ↔ ∃ t : Nat, x = t ∧ t < n := by
  unfold zs
  rw [List.mem_map]
  constructor
  · rintro ⟨t, h, rfl⟩; exact ⟨t, rfl, List.mem_range.mp h⟩
  · rintro ⟨t, rfl, h⟩; exact ⟨t, List.mem_range.mpr h, rfl⟩
theorem nodup_zrange (n : Nat) : (zs (List.range n)).Nodup := by
  unfold zs
  exact List.Pairwise.map _ (fun a b h z => h (by omega)) List.nodup_range
theorem flat_disj {mss : List (List Int)} (h : mss.flatten.Nodup) {i j : Nat} {s t : List Int} {x : Int} (hi : mss[i]? = some s) (hj : mss[j]? = some t) (hx : x ∈ s) (hy : x ∈ t) : i = j := by
  have h2 := (List.pairwise_flatten.mp h).2
  have key : ∀ {i j : Nat} {s t : List Int}, mss[i]? = some s → mss[j]? = some t → x ∈ s → x ∈ t → ¬ i < j := by
    intro i j s t hi hj hx hy hlt
    obtain ⟨h3, e3⟩ := List.getElem?_eq_some_iff.mp hi
    obtain ⟨h4, e4⟩ := List.getElem?_eq_some_iff.mp hj
    have := List.pairwise_iff_getElem.mp h2 i j h3 h4 hlt x (by rw [e3]; exact hx) x (by rw [e4]; exact hy)
    exact this rfl
  have a := key hi hj hx hy
  have b := key hj hi hy hx
  omega
/-- a check that a sharing by its marks has been told -/
theorem flat_append_at : ∀ (l : List (List Nat)) (k x : Nat) (s : List Nat), l[k]? = some s → ((l.set k (s ++ [x])).flatten).Perm (l.flatten ++ [x])
  | [], k, x, s, h => by simp at h
  | a :: r, 0, x, s, h => by
    simp at h
    subst h
    simp only [List.set_cons_zero, List.flatten_cons, List.append_assoc]
    exact List.Perm.append_left _ (List.perm_append_comm)
  | a :: r, k + 1, x, s, h => by
    have := flat_append_at r k x s (by simpa using h)
    simp only [List.set_cons_succ, List.flatten_cons, List.append_assoc]
    exact List.Perm.append_left _ this
theorem shr_flat (ms : List Nat) (K : Nat) (hK : ∀ m ∈ ms, m < K) : ∀ i : Nat, i ≤ ms.length → ((List.range K).map fun k => shr ms i k).flatten.Perm (List.range i)
  | 0, _ => by
    have : ((List.range K).map fun k => shr ms 0 k).flatten = [] := by
      rw [List.flatten_eq_nil_iff]
      intro l hl
      obtain ⟨k, _, rfl⟩ := List.mem_map.mp hl
      rfl
    rw [this]; exact .refl _
  | i + 1, h => by
    have ih := shr_flat ms K hK i (by omega)
    have hi : i < ms.length := by omega
    have ga := List.getElem?_eq_getElem hi
    have hm : ms[i] < K := hK _ (List.getElem_mem hi)
    have hset := map_range_set (f := fun k => shr ms i k) (g := fun k => shr ms (i + 1) k) hm fun j hj => by
      rw [shr_succ, if_neg]
      rw [ga]; intro z; exact hj (Option.some.inj z).symm
    have hval : shr ms (i + 1) ms[i] = shr ms i ms[i] ++ [i] := by
      rw [shr_succ, if_pos ga]
    rw [← hset, hval, List.range_succ]
    have hget : ((List.range K).map fun k => shr ms i k)[ms[i]]? = some (shr ms i ms[i]) := by
      rw [List.getElem?_map, List.getElem?_range hm]; rfl
    exact (flat_append_at _ _ _ _ hget).trans (ih.append_right _)
theorem shs_flat (ms : List Nat) : (shs ms).flatten.Perm (List.range ms.length) := shr_flat ms (fre ms) (fun _ h => fre_lt h) ms.length (Nat.le_refl _)
theorem good_below : ∀ (ms : List Nat) (f k : Nat), good f ms = true → f ≤ k → k < ms.foldl (fun f m => max f (m + 1)) f → k ∈ ms
  | [], f, k, _, h1, h2 => by simp at h2; omega
  | m :: r, f, k, h, h1, h2 => by
    rw [good, Bool.and_eq_true, decide_eq_true_iff] at h
    rw [List.foldl_cons] at h2
    by_cases hk : k = m
    · subst hk; exact List.mem_cons_self ..
    · exact List.mem_cons_of_mem _ (good_below r _ k h.2 (by omega) h2)
/-- each mark below the free one stands -/
theorem good_all {ms : List Nat} (h : good 0 ms = true) {k : Nat} (hk : k < fre ms) : k ∈ ms := good_below ms 0 k h (by omega) hk
theorem shs_ne {ms : List Nat} (h : good 0 ms = true) : ∀ s ∈ shs ms, s ≠ [] := by
  intro s hs
  obtain ⟨k, hk, rfl⟩ := List.mem_map.mp hs
  have := good_all h (List.mem_range.mp hk)
  obtain ⟨i, hi, e⟩ := List.getElem_of_mem this
  have : i ∈ shr ms ms.length k := mem_shr.mpr ⟨hi, by rw [List.getElem?_eq_getElem hi, e]⟩
  exact List.ne_nil_of_mem this
end Sh

namespace Sh
open PySem PySem.Spec PyProof.Rows L2
/-! ## Tools for rows of statements; all sharings; how many different ones -/
theorem sSeq_bind (f g h : Sg → Out) : sSeq f (sSeq g h) = sSeq (sSeq f g) h := by
  funext S
  unfold sSeq
  cases f S with
  | nx S' => rfl
  | rt r => rfl
  | bk S' => rfl
  | ct S' => rfl
  | ex c S' => rfl
  | no => rfl
theorem sSeq_go {f g : Sg → Out} {S S' : Sg} (h : f S = .nx S') : sSeq f g S = g S' := by simp only [sSeq, h]
theorem sSeq_rt {f g : Sg → Out} {S : Sg} {r : Sl} (h : f S = .rt r) : sSeq f g S = .rt r := by simp only [sSeq, h]
theorem sSeq_ex {f g : Sg → Out} {S S' : Sg} {c : Nat} (h : f S = .ex c S') : sSeq f g S = .ex c S' := by simp only [sSeq, h]
theorem sSet_ok {i : Nat} {f : Sg → Rs Sl} {S : Sg} {r : Sl} (h : f S = .ok r) : sSet i f S = .nx (S.set i r) := by
  unfold sSet; rw [h]; rfl
theorem sRet_ok {f : Sg → Rs Sl} {S : Sg} {r : Sl} (h : f S = .ok r) : sRet f S = .rt r := by
  unfold sRet; rw [h]; rfl
theorem fBin_ok {g : D → D → Rs Sl} {fa fb : Sg → Rs D} {S : Sg} {x y : D} (ha : fa S = .ok x) (hb : fb S = .ok y) : fBin g fa fb S = g x y := by
  unfold fBin; rw [ha, Rs.bind_ok, hb, Rs.bind_ok]
theorem fS_ok {f : Sg → Rs Sl} {S : Sg} {s : Sl} {d : D} (h : f S = .ok s) (hd : s.d? = some d) : fS f S = .ok d := by
  unfold fS; rw [h, Rs.bind_ok, hd]
theorem oMul_lim (i : Int) (j : Nat) (h : j < 1073741824) : oMul (.int i) (.int (j : Int)) = okI (i * j) := by
  have h1 : (-18446744073709551616 : Int) < j ∧ (j : Int) < 18446744073709551616 := by omega
  simp [oMul, h1]
theorem oMul_limN (i : Int) (j : Nat) (h : j < 1073741824) : oMul (.int i) (.int (-(j : Int))) = okI (i * -j) := by
  have h1 : (-18446744073709551616 : Int) < -(j : Int) ∧ -(j : Int) < 18446744073709551616 := by omega
  simp [oMul, h1]
def alls : Nat → List (List Nat)
  | 0 => [[]]
  | n + 1 => (alls n).flatMap fun row => (List.range (fre row + 1)).map fun m => row ++ [m]
theorem mem_alls : ∀ (n : Nat) (ms : List Nat), ms.length = n → good 0 ms = true → ms ∈ alls n
  | 0, ms, h, _ => by
    have : ms = [] := List.length_eq_zero_iff.mp h
    subst this
    simp [alls]
  | n + 1, ms, h, g => by
    have hne : ms ≠ [] := fun z => by subst z; simp at h
    rw [← List.dropLast_concat_getLast hne] at g ⊢
    generalize ms.getLast hne = m at g ⊢
    have hl : ms.dropLast.length = n := by simp [h]
    generalize ms.dropLast = r at g hl ⊢
    rw [good_snoc, Bool.and_eq_true, decide_eq_true_iff] at g
    unfold alls
    rw [List.mem_flatMap]
    exact ⟨r, mem_alls n r hl g.1, List.mem_map.mpr ⟨m, List.mem_range.mpr (by omega), rfl⟩⟩
theorem alls_len : ∀ (n : Nat) (ms : List Nat), ms ∈ alls n → ms.length = n
  | 0, ms, h => by simp [alls] at h; subst h; rfl
  | n + 1, ms, h => by
    unfold alls at h
    rw [List.mem_flatMap] at h
    obtain ⟨r, hr, h⟩ := h
    obtain ⟨m, _, rfl⟩ := List.mem_map.mp h
    simp [alls_len n r hr]
theorem alls_good : ∀ (n : Nat) (ms : List Nat), ms ∈ alls n → good 0 ms = true
  | 0, ms, h => by simp [alls] at h; subst h; rfl
  | n + 1, ms, h => by
    unfold alls at h
    rw [List.mem_flatMap] at h
    obtain ⟨r, hr, h⟩ := h
    obtain ⟨m, hm, rfl⟩ := List.mem_map.mp h
    rw [good_snoc, alls_good n r hr]
    simpa using Nat.lt_succ_iff.mp (List.mem_range.mp hm)
def finB (a b : List Nat) : Bool := (List.range a.length).all fun i => (List.range i).all fun j => !(a.getD i 0 == a.getD j 0) || b.getD i 0 == b.getD j 0
theorem get_iff (c : List Nat) (i j : Nat) (hi : i < c.length) (hj : j < c.length) : c[i]? = c[j]? ↔ c.getD i 0 = c.getD j 0 := by
  simp [List.getD_eq_getElem?_getD, hi, hj]
theorem finB_iff {a b : List Nat} (e : a.length = b.length) : finB a b = true ↔ Fin a b := by
  have hg := get_iff
  unfold finB Fin
  simp only [List.all_eq_true, List.mem_range, Bool.or_eq_true, Bool.not_eq_true', beq_eq_false_iff_ne, beq_iff_eq]
  constructor
  · intro h i j hi hj q
    rcases Nat.lt_trichotomy i j with z | z | z
    · rcases h j hj i z with h2 | h2
      · exact absurd ((hg a i j hi hj).mp q).symm h2
      · exact ((hg b i j (by omega) (by omega)).mpr h2.symm)
    · rw [z]
    · rcases h i hi j z with h2 | h2
      · exact absurd ((hg a i j hi hj).mp q) h2
      · exact (hg b i j (by omega) (by omega)).mpr h2
  · intro h i hi j hj
    by_cases q : a.getD i 0 = a.getD j 0
    · exact .inr ((hg b i j (by omega) (by omega)).mp (h i j hi (by omega) ((hg a i j hi (by omega)).mpr q)))
    · exact .inl q
/-! how many different ones -/
theorem dedup_firsts : ∀ (ns s : List Int), ns.foldl step_dedup s = firsts s ns
  | [], s => rfl
  | x :: r, s => by
    rw [List.foldl_cons, firsts, dedup_firsts r]
    unfold step_dedup
    have : (s.any (· == x)) = true ↔ x ∈ s := by simp
    by_cases h : x ∈ s
    · rw [if_pos (this.mpr h), if_pos h]
    · rw [if_neg (fun z => h (this.mp z)), if_neg h]
theorem dct_eq (ns : List Int) : dct ns = (firsts [] ns).length := by
  unfold dct firstMet
  rw [dedup_firsts]
  have : ((List.range ns.length).map fun i => ns.getD i 0) = ns := by
    apply List.ext_getElem?
    intro i
    by_cases h : i < ns.length
    · rw [List.getElem?_map, List.getElem?_range h]; simp [h]
    · rw [List.getElem?_eq_none (by simp; omega), List.getElem?_eq_none (by omega)]
  rw [this]
theorem dct_zs (ms : List Nat) : dct (zs ms) = (firsts [] ms).length := by
  rw [dct_eq]
  have := firsts_map (f := fun m : Nat => (m : Int)) ms [] fun x y _ _ h => by omega
  rw [List.map_nil] at this
  unfold zs
  rw [this, List.length_map]
theorem firsts_nodup {κ : Type} [DecidableEq κ] : ∀ (xs s : List κ), s.Nodup → (firsts s xs).Nodup
  | [], s, h => h
  | x :: r, s, h => by
    unfold firsts
    split
    · exact firsts_nodup r s h
    · next hx =>
      refine firsts_nodup r _ (List.nodup_append.mpr ⟨h, by simp, fun a ha b hb => ?_⟩)
      have : b = x := by simpa using hb
      subst this
      intro z; subst z; exact hx ha
theorem nodup_len {κ : Type} [DecidableEq κ] {a b : List κ} (ha : a.Nodup) (hb : b.Nodup) (h : ∀ x, x ∈ a ↔ x ∈ b) : a.length = b.length := by
  refine (List.perm_iff_count.mpr fun x => ?_).length_eq
  rw [ha.count, hb.count]
  simp [h]
theorem shr_nodup (ms : List Nat) (i k : Nat) : (shr ms i k).Nodup := List.Pairwise.filter _ List.nodup_range
/-! a sharing of a sharing's shares -/
def cmp (a r : List Nat) : List Nat := a.map fun k => r.getD k 0
@[simp] theorem cmp_length (a r : List Nat) : (cmp a r).length = a.length := by simp [cmp]
theorem cmp_get (a r : List Nat) (i : Nat) : (cmp a r)[i]? = (a[i]?).map fun k => r.getD k 0 := by simp [cmp]
theorem fre_take_mono : ∀ (r : List Nat) (i j : Nat), i ≤ j → fre (r.take i) ≤ fre (r.take j) := by
  intro r i j h
  have : r.take j = r.take i ++ (r.drop i).take (j - i) := by
    rw [← List.take_add, show i + (j - i) = j by omega]
  rw [this]
  unfold fre
  rw [List.foldl_append]
  exact (fre_fold _ _).1
theorem good_take {r : List Nat} (h : good 0 r = true) : ∀ k : Nat, k ≤ r.length → good 0 (r.take k) = true
  | 0, _ => rfl
  | k + 1, hk => by
    have : ∀ (a b : List Nat) (f : Nat), good f (a ++ b) = true → good f a = true := by
      intro a
      induction a with
      | nil => intro b f _; rfl
      | cons x a ih =>
        intro b f h
        rw [List.cons_append, good, Bool.and_eq_true] at h
        rw [good, Bool.and_eq_true]
        exact ⟨h.1, ih b _ h.2⟩
    exact this (r.take (k + 1)) (r.drop (k + 1)) 0 (by rw [List.take_append_drop]; exact h)
theorem good_at {r : List Nat} (h : good 0 r = true) {k : Nat} (hk : k < r.length) : r[k] ≤ fre (r.take k) := by
  have := good_take h (k + 1) hk
  rw [List.take_succ, List.getElem?_eq_getElem hk] at this
  simp only [Option.toList] at this
  rw [good_snoc, Bool.and_eq_true, decide_eq_true_iff] at this
  exact this.2
theorem cmp_good {a r : List Nat} (ha : good 0 a = true) (hr : good 0 r = true) (hl : r.length = fre a) : good 0 (cmp a r) = true := by
  have go : ∀ n, n ≤ a.length → good 0 (cmp (a.take n) r) = true ∧ fre (cmp (a.take n) r) = fre (r.take (fre (a.take n))) := by
    intro n
    induction n with
    | zero => intro _; exact ⟨rfl, by simp [cmp, fre]⟩
    | succ n ih =>
      intro hn
      obtain ⟨h1, h2⟩ := ih (by omega)
      have hn' : n < a.length := by omega
      have hm := good_at ha hn'
      have hlt : a[n] < r.length := by rw [hl]; exact fre_lt (List.getElem_mem hn')
      have e : cmp (a.take (n + 1)) r = cmp (a.take n) r ++ [r[a[n]]] := by
        rw [List.take_succ, List.getElem?_eq_getElem hn']
        unfold cmp
        rw [List.map_append]
        congr 1
        simp [Option.toList, hlt]
      have e2 : a.take (n + 1) = a.take n ++ [a[n]] := by rw [List.take_succ, List.getElem?_eq_getElem hn']; rfl
      rw [e, good_snoc, h1, fre_app, h2, e2, fre_app]
      by_cases q : a[n] < fre (a.take n)
      · have : r[a[n]] < fre (r.take (fre (a.take n))) := by
          refine fre_get (i := a[n]) ?_
          rw [List.getElem?_take_of_lt q, List.getElem?_eq_getElem hlt]
        rw [show max (fre (a.take n)) (a[n] + 1) = fre (a.take n) by omega]
        simp; omega
      · have q2 : a[n] = fre (a.take n) := by omega
        have h3 := good_at hr hlt
        rw [show max (fre (a.take n)) (a[n] + 1) = a[n] + 1 by omega]
        have e3 : r.take (a[n] + 1) = r.take a[n] ++ [r[a[n]]] := by rw [List.take_succ, List.getElem?_eq_getElem hlt]; rfl
        rw [e3, fre_app, ← q2]
        simp; omega
  have := (go a.length (Nat.le_refl _)).1
  rw [List.take_length] at this
  exact this
theorem cmp_fin (a r : List Nat) : Fin a (cmp a r) := fun i j hi hj q => by rw [cmp_get, cmp_get, q]
/-- finer as of the shares -/
theorem cmp_finer {a r o : List Nat} (ha : good 0 a = true) (hr : r.length = fre a) (ho : o.length = fre a) : Fin (cmp a r) (cmp a o) ↔ Fin r o := by
  have at' : ∀ k, k < fre a → ∃ i, i < a.length ∧ a[i]? = some k := fun k hk => by
    obtain ⟨i, hi, e⟩ := List.getElem_of_mem (good_all ha hk)
    exact ⟨i, hi, by rw [List.getElem?_eq_getElem hi, e]⟩
  constructor
  · intro h k l hk hl q
    obtain ⟨i, hi, ei⟩ := at' k (by omega)
    obtain ⟨j, hj, ej⟩ := at' l (by omega)
    have := h i j (by simpa using hi) (by simpa using hj) (by
      rw [cmp_get, cmp_get, ei, ej]
      simp only [Option.map_some, Option.some.injEq]
      exact (get_iff r k l hk hl).mp q)
    rw [cmp_get, cmp_get, ei, ej] at this
    simp only [Option.map_some, Option.some.injEq] at this
    exact (get_iff o k l (by omega) (by omega)).mpr this
  · intro h i j hi hj q
    simp only [cmp_length] at hi hj
    have gi := List.getElem?_eq_getElem hi
    have gj := List.getElem?_eq_getElem hj
    have hk := fre_get gi
    have hl := fre_get gj
    rw [cmp_get, cmp_get, gi, gj] at q ⊢
    simp only [Option.map_some, Option.some.injEq] at q ⊢
    exact (get_iff o _ _ (by omega) (by omega)).mp (h _ _ (by omega) (by omega) ((get_iff r _ _ (by omega) (by omega)).mpr q))
theorem canon_pull {α : Type} [DecidableEq α] {a : List Nat} (ha : good 0 a = true) (y : Nat → α) : canon (a.map y) = cmp a (canon ((List.range (fre a)).map y)) := by
  have hs := same_canon ((List.range (fre a)).map y)
  refine canon_eq (cmp_good ha (good_canon _) (by simp)) ⟨by simp, fun i j hi hj => ?_⟩
  simp only [cmp_length] at hi hj
  have gi := List.getElem?_eq_getElem hi
  have gj := List.getElem?_eq_getElem hj
  have hk := fre_get gi
  have hl := fre_get gj
  have := hs.2 a[i] a[j] (by simpa using hk) (by simpa using hl)
  rw [cmp_get, cmp_get, gi, gj, List.getElem?_map, List.getElem?_map, gi, gj]
  simp only [Option.map_some, Option.some.injEq]
  rw [List.getElem?_map, List.getElem?_map, List.getElem?_range hk, List.getElem?_range hl] at this
  simp only [Option.map_some, Option.some.injEq] at this
  rw [this, get_iff _ _ _ (by simpa using hk) (by simpa using hl)]
/-- how many shares of a are in each share of b -/
def szl (a b : List Nat) : List Nat := (shs b).map fun s => (firsts [] (s.map fun t => a.getD t 0)).length
theorem szl_cmp {a r : List Nat} (ha : good 0 a = true) (hr : good 0 r = true) (hl : r.length = fre a) : szl a (cmp a r) = (shs r).map List.length := by
  have hf : fre (cmp a r) = fre r := by
    have h1 : ∀ k, k < fre (cmp a r) → k < fre r := fun k hk => by
      have := good_all (cmp_good ha hr hl) hk
      unfold cmp at this
      obtain ⟨m, hm, rfl⟩ := List.mem_map.mp this
      have hlt : m < r.length := by rw [hl]; exact fre_lt hm
      rw [List.getD_eq_getElem?_getD, List.getElem?_eq_getElem hlt]
      exact fre_lt (List.getElem_mem hlt)
    have h2 : ∀ k, k < fre r → k < fre (cmp a r) := fun k hk => by
      obtain ⟨m, hm, e⟩ := List.getElem_of_mem (good_all hr hk)
      obtain ⟨i, hi, ei⟩ := List.getElem_of_mem (good_all ha (k := m) (by omega))
      refine fre_get (i := i) ?_
      rw [cmp_get, List.getElem?_eq_getElem hi, ei]
      simp [hm, e]
    rcases Nat.lt_trichotomy (fre (cmp a r)) (fre r) with h | h | h
    · have := h2 (fre (cmp a r)) h; omega
    · exact h
    · have := h1 (fre r) h; omega
  unfold szl shs
  rw [hf, List.map_map, List.map_map]
  apply List.map_congr_left
  intro k hk
  simp only [Function.comp_def]
  refine nodup_len (firsts_nodup _ _ List.nodup_nil) (shr_nodup _ _ _) fun m => ?_
  rw [mem_firsts, mem_shr]
  simp only [List.not_mem_nil, false_or, List.mem_map, mem_shr, cmp_length]
  constructor
  · rintro ⟨t, ⟨ht, e⟩, rfl⟩
    rw [cmp_get, List.getElem?_eq_getElem ht] at e
    simp only [Option.map_some, Option.some.injEq] at e
    have hlt : a[t] < r.length := by rw [hl]; exact fre_lt (List.getElem_mem ht)
    rw [show a.getD t 0 = a[t] by simp [ht]]
    refine ⟨hlt, ?_⟩
    rw [List.getElem?_eq_getElem hlt, ← e]
    simp [hlt]
  · rintro ⟨hm, e⟩
    obtain ⟨i, hi, ei⟩ := List.getElem_of_mem (good_all ha (k := m) (by omega))
    refine ⟨i, ⟨hi, ?_⟩, by simp [hi, ei]⟩
    rw [cmp_get, List.getElem?_eq_getElem hi, ei]
    simp [e]
end Sh

namespace Sh
open PySem PySem.Spec PyProof.Rows L2
def N_isSharing : List Str := ["one", "free", "mark"]
def q_isSharing_0a0 : Sg → Out := (sRet (fX (fC (.bool false))))
def q_isSharing_0 : Sg → Out := (sIf (tN (fTB (fChain oLe oLe (fC (.int 1)) (fS (fApp oLen (fCons (rVar 0) fNil))) (fC (.int 12))))) q_isSharing_0a0 sNext)
def q_isSharing_1 : Sg → Out := (sSet 1 (fX (fC (.int 0))))
def q_isSharing_2a0a0 : Sg → Out := (sRet (fX (fC (.bool false))))
def q_isSharing_2a0 : Sg → Out := (sIf (tN (fTB (fChain oLe oLe (fC (.int 0)) (rVar 2) (rVar 1)))) q_isSharing_2a0a0 sNext)
def q_isSharing_2a1a0 : Sg → Out := (sSet 1 (fBin oAdd (lVar 1) (fC (.int 1))))
def q_isSharing_2a1 : Sg → Out := (sIf (fTB (fBin oEq (rVar 2) (rVar 1))) q_isSharing_2a1a0 sNext)
def l_isSharing_2 : Sg → Out := (sSeq q_isSharing_2a0
  q_isSharing_2a1)
def q_isSharing_2 : Sg → Out := (sFor 2 (fItems (sVar 0)) l_isSharing_2)
def q_isSharing_3 : Sg → Out := (sRet (fX (fC (.bool true))))
def b_isSharing : Sg → Out := (sSeq q_isSharing_0
  (sSeq q_isSharing_1
  (sSeq q_isSharing_2
  q_isSharing_3)))
def F_isSharing : List D → Rs Sl := fnF 3 1 (fun _ => b_isSharing)
def N_ask : List Str := ["one"]
def q_ask_0a0 : Sg → Out := (sRaise 1)
def q_ask_0 : Sg → Out := (sIf (tN (fTB (fAppR F_isSharing (fCons (rVar 0) fNil)))) q_ask_0a0 sNext)
def b_ask : Sg → Out := q_ask_0
def F_ask : List D → Rs Sl := fnF 1 1 (fun _ => b_ask)
def N_sharesBy : List Str := ["one", "found", "mark", "thing"]
def q_sharesBy_0 : Sg → Out := (sSet 1 (fComp2 2 (fRng1 (fCons (fS (fBin oAdd (fS (fApp oMax (fCons (rVar 0) fNil))) (fC (.int 1)))) fNil)) (fLst fNil)))
def q_sharesBy_1a0 : Sg → Out := (sAppAt 1 (fS (fBin oIdx (lVar 0) (rVar 3))) (sVar 3))
def q_sharesBy_1 : Sg → Out := (sFor 3 (fRng1 (fCons (fS (fApp oLen (fCons (rVar 0) fNil))) fNil)) q_sharesBy_1a0)
def q_sharesBy_2 : Sg → Out := (sRetV 1)
def b_sharesBy : Sg → Out := (sSeq q_sharesBy_0
  (sSeq q_sharesBy_1
  q_sharesBy_2))
def F_sharesBy : List D → Rs Sl := fnF 4 1 (fun _ => b_sharesBy)
def N_sharesOf : List Str := ["one"]
def q_sharesOf_0 : Sg → Out := (sDrop (fAppR F_ask (fCons (rVar 0) fNil)))
def q_sharesOf_1 : Sg → Out := (sRet (fApp F_sharesBy (fCons (sVar 0) fNil)))
def b_sharesOf : Sg → Out := (sSeq q_sharesOf_0
  q_sharesOf_1)
def F_sharesOf : List D → Rs Sl := fnF 1 1 (fun _ => b_sharesOf)
def N_marked : List Str := ["names", "seen", "name"]
def q_marked_0 : Sg → Out := (sSet 1 (fun _ => .ok (.od [])))
def q_marked_1a0a0 : Sg → Out := (sDPutF 1 (rVar 2) (fDLen 1))
def q_marked_1a0 : Sg → Out := (sIf (tN (fDIn 1 (rVar 2))) q_marked_1a0a0 sNext)
def q_marked_1 : Sg → Out := (sFor 2 (fItems (sVar 0)) q_marked_1a0)
def q_marked_2 : Sg → Out := (sRet (fComp 2 (fItems (sVar 0)) tTrue (fDGet 1 (rVar 2))))
def q_markedT_0 : Sg → Out := (sSet 1 (fun _ => .ok (.ot [])))
def q_markedT_1a0a0 : Sg → Out := (sDPutF 1 (rVar 2) (fDLen 1))
def q_markedT_1a0 : Sg → Out := (sIf (tN (fDIn 1 (rVar 2))) q_markedT_1a0a0 sNext)
def q_markedT_1 : Sg → Out := (sFor 2 (fItems (sVar 0)) q_markedT_1a0)
def q_markedT_2 : Sg → Out := (sRet (fComp 2 (fItems (sVar 0)) tTrue (fDGet 1 (rVar 2))))
def b_marked : Sg → Out := (sSeq q_marked_0
  (sSeq q_marked_1
  q_marked_2))
def b_markedT : Sg → Out := (sSeq q_markedT_0
  (sSeq q_markedT_1
  q_markedT_2))
def F_marked : List D → Rs Sl := fnF 3 1 (fun ds => match ds with
  | [.list (.tuple _ :: _)] => b_markedT
  | _ => b_marked)
def N_marksOf : List Str := ["shares", "whole", "share", "names", "k", "thing"]
def q_marksOf_0 : Sg → Out := (sSet 1 (fLst fNil))
def q_marksOf_1a0 : Sg → Out := (sSet 1 (fBin oAdd (lVar 1) (lVar 2)))
def q_marksOf_1 : Sg → Out := (sFor 2 (fItems (sVar 0)) q_marksOf_1a0)
def q_marksOf_2a0 : Sg → Out := (sRaise 2)
def q_marksOf_2 : Sg → Out := (sIf (tOr' (tN (fTB (fChain oLe oLe (fC (.int 1)) (fS (fApp oLen (fCons (rVar 1) fNil))) (fC (.int 12))))) (fTB (fBin oNe (fS (fApp oSorted (fCons (rVar 1) fNil))) (fS (fListRg (fS (fApp oLen (fCons (rVar 1) fNil)))))))) q_marksOf_2a0 sNext)
def q_marksOf_3 : Sg → Out := (sSet 3 (fBin oMul (fS (fLst (fCons (fC (.int 0)) fNil))) (fS (fApp oLen (fCons (rVar 1) fNil)))))
def q_marksOf_4a0a0 : Sg → Out := (sRaise 2)
def q_marksOf_4a0 : Sg → Out := (sIf (fTB (fBin oEq (fS (fApp oLen (fCons (fS (fBin oIdx (lVar 0) (rVar 4))) fNil))) (fC (.int 0)))) q_marksOf_4a0a0 sNext)
def q_marksOf_4a1a0 : Sg → Out := (sSetAt 3 (rVar 5) (sVar 4))
def q_marksOf_4a1 : Sg → Out := (sFor 5 (fItems (fS (fBin oIdx (lVar 0) (rVar 4)))) q_marksOf_4a1a0)
def l_marksOf_4 : Sg → Out := (sSeq q_marksOf_4a0
  q_marksOf_4a1)
def q_marksOf_4 : Sg → Out := (sFor 4 (fRng1 (fCons (fS (fApp oLen (fCons (rVar 0) fNil))) fNil)) l_marksOf_4)
def q_marksOf_5 : Sg → Out := (sRet (fAppR F_marked (fCons (rVar 3) fNil)))
def b_marksOf : Sg → Out := (sSeq q_marksOf_0
  (sSeq q_marksOf_1
  (sSeq q_marksOf_2
  (sSeq q_marksOf_3
  (sSeq q_marksOf_4
  q_marksOf_5)))))
def F_marksOf : List D → Rs Sl := fnF 6 1 (fun _ => b_marksOf)
def N_sizes : List Str := ["one", "share"]
def q_sizes_0 : Sg → Out := (sDrop (fAppR F_ask (fCons (rVar 0) fNil)))
def q_sizes_1 : Sg → Out := (sRet (fListRev (fS (fApp oSorted (fCons (fS (fComp 1 (fItems (fS (fApp F_sharesBy (fCons (sVar 0) fNil)))) tTrue (fS (fApp oLen (fCons (rVar 1) fNil))))) fNil)))))
def b_sizes : Sg → Out := (sSeq q_sizes_0
  q_sizes_1)
def F_sizes : List D → Rs Sl := fnF 2 1 (fun _ => b_sizes)
def N_askBoth : List Str := ["one", "other"]
def q_askBoth_0 : Sg → Out := (sDrop (fAppR F_ask (fCons (rVar 0) fNil)))
def q_askBoth_1 : Sg → Out := (sDrop (fAppR F_ask (fCons (rVar 1) fNil)))
def q_askBoth_2a0 : Sg → Out := (sRaise 3)
def q_askBoth_2 : Sg → Out := (sIf (fTB (fBin oNe (fS (fApp oLen (fCons (rVar 0) fNil))) (fS (fApp oLen (fCons (rVar 1) fNil))))) q_askBoth_2a0 sNext)
def b_askBoth : Sg → Out := (sSeq q_askBoth_0
  (sSeq q_askBoth_1
  q_askBoth_2))
def F_askBoth : List D → Rs Sl := fnF 2 2 (fun _ => b_askBoth)
def N_finerBy : List Str := ["one", "other", "led", "thing"]
def q_finerBy_0 : Sg → Out := (sSet 2 (fun _ => .ok (.od [])))
def q_finerBy_1a0a0 : Sg → Out := (sRet (fX (fC (.bool false))))
def q_finerBy_1a0 : Sg → Out := (sIfSetd 2 (fS (fBin oIdx (lVar 0) (rVar 3))) (fS (fBin oIdx (lVar 1) (rVar 3))) (fS (fBin oIdx (lVar 1) (rVar 3))) q_finerBy_1a0a0)
def q_finerBy_1 : Sg → Out := (sFor 3 (fRng1 (fCons (fS (fApp oLen (fCons (rVar 0) fNil))) fNil)) q_finerBy_1a0)
def q_finerBy_2 : Sg → Out := (sRet (fX (fC (.bool true))))
def b_finerBy : Sg → Out := (sSeq q_finerBy_0
  (sSeq q_finerBy_1
  q_finerBy_2))
def F_finerBy : List D → Rs Sl := fnF 4 2 (fun _ => b_finerBy)
def N_isFiner : List Str := ["one", "other"]
def q_isFiner_0 : Sg → Out := (sDrop (fAppR F_askBoth (fCons (rVar 0) (fCons (rVar 1) fNil))))
def q_isFiner_1 : Sg → Out := (sRet (fAppR F_finerBy (fCons (rVar 0) (fCons (rVar 1) fNil))))
def b_isFiner : Sg → Out := (sSeq q_isFiner_0
  q_isFiner_1)
def F_isFiner : List D → Rs Sl := fnF 2 2 (fun _ => b_isFiner)
def N_meeting : List Str := ["one", "other", "thing"]
def q_meeting_0 : Sg → Out := (sDrop (fAppR F_askBoth (fCons (rVar 0) (fCons (rVar 1) fNil))))
def q_meeting_1 : Sg → Out := (sRet (fAppR F_marked (fCons (fS (fComp 2 (fRng1 (fCons (fS (fApp oLen (fCons (rVar 0) fNil))) fNil)) tTrue (fTup (fCons (fS (fBin oIdx (lVar 0) (rVar 2))) (fCons (fS (fBin oIdx (lVar 1) (rVar 2))) fNil))))) fNil)))
def b_meeting : Sg → Out := (sSeq q_meeting_0
  q_meeting_1)
def F_meeting : List D → Rs Sl := fnF 3 2 (fun _ => b_meeting)
def N_merged : List Str := ["one", "first", "second", "names", "mark"]
def q_merged_0 : Sg → Out := (sSet 3 (fComp 4 (fItems (sVar 0)) tTrue (fS (fIf (fTB (fBin oEq (rVar 4) (fS (fBin oIdx (lVar 0) (rVar 2))))) (fBin oIdx (lVar 0) (rVar 1)) (fX (sVar 4))))))
def q_merged_1 : Sg → Out := (sRet (fAppR F_marked (fCons (rVar 3) fNil)))
def b_merged : Sg → Out := (sSeq q_merged_0
  q_merged_1)
def F_merged : List D → Rs Sl := fnF 5 3 (fun _ => b_merged)
def N_joining : List Str := ["one", "other", "found", "share", "thing"]
def q_joining_0 : Sg → Out := (sDrop (fAppR F_askBoth (fCons (rVar 0) (fCons (rVar 1) fNil))))
def q_joining_1 : Sg → Out := (sSet 2 (fApp oList (fCons (lVar 0) fNil)))
def q_joining_2a0a0 : Sg → Out := (sSet 2 (fAppR F_merged (fCons (rVar 2) (fCons (fS (fBin oIdx (lVar 3) (fC (.int 0)))) (fCons (rVar 4) fNil)))))
def q_joining_2a0 : Sg → Out := (sFor 4 (fItems (sVar 3)) q_joining_2a0a0)
def q_joining_2 : Sg → Out := (sFor 3 (fItems (fS (fApp F_sharesBy (fCons (sVar 1) fNil)))) q_joining_2a0)
def q_joining_3 : Sg → Out := (sRetV 2)
def b_joining : Sg → Out := (sSeq q_joining_0
  (sSeq q_joining_1
  (sSeq q_joining_2
  q_joining_3)))
def F_joining : List D → Rs Sl := fnF 5 2 (fun _ => b_joining)
def N_askFiner : List Str := ["one", "other"]
def q_askFiner_0 : Sg → Out := (sDrop (fAppR F_askBoth (fCons (rVar 0) (fCons (rVar 1) fNil))))
def q_askFiner_1a0 : Sg → Out := (sRaise 4)
def q_askFiner_1 : Sg → Out := (sIf (tN (fTB (fAppR F_finerBy (fCons (rVar 0) (fCons (rVar 1) fNil))))) q_askFiner_1a0 sNext)
def b_askFiner : Sg → Out := (sSeq q_askFiner_0
  q_askFiner_1)
def F_askFiner : List D → Rs Sl := fnF 2 2 (fun _ => b_askFiner)
def N_rise : List Str := ["one", "other", "found", "share", "thing"]
def q_rise_0 : Sg → Out := (sDrop (fAppR F_askFiner (fCons (rVar 0) (fCons (rVar 1) fNil))))
def q_rise_1 : Sg → Out := (sSet 2 (fLst2 (fApp oList (fCons (lVar 0) fNil))))
def q_rise_2a0a0a0 : Sg → Out := (sApp2 2 (fAppR F_merged (fCons (fIxR (rVar 2) (fS (fUn oNeg (fC (.int 1))))) (fCons (fS (fBin oIdx (lVar 3) (fC (.int 0)))) (fCons (rVar 4) fNil)))))
def q_rise_2a0a0 : Sg → Out := (sIf (fTB (fBin oNe (fIxR (fIxR (rVar 2) (fS (fUn oNeg (fC (.int 1))))) (rVar 4)) (fIxR (fIxR (rVar 2) (fS (fUn oNeg (fC (.int 1))))) (fS (fBin oIdx (lVar 3) (fC (.int 0))))))) q_rise_2a0a0a0 sNext)
def q_rise_2a0 : Sg → Out := (sFor 4 (fItems (sVar 3)) q_rise_2a0a0)
def q_rise_2 : Sg → Out := (sFor 3 (fItems (fS (fApp F_sharesBy (fCons (sVar 1) fNil)))) q_rise_2a0)
def q_rise_3 : Sg → Out := (sRetV 2)
def b_rise : Sg → Out := (sSeq q_rise_0
  (sSeq q_rise_1
  (sSeq q_rise_2
  q_rise_3)))
def F_rise : List D → Rs Sl := fnF 5 2 (fun _ => b_rise)
def N_parts : List Str := ["one", "other", "thing", "share"]
def q_parts_0 : Sg → Out := (sRet (fComp 3 (fItems (fS (fApp F_sharesBy (fCons (sVar 1) fNil)))) tTrue (fS (fLenSet (fS (fComp 2 (fItems (sVar 3)) tTrue (fS (fBin oIdx (lVar 0) (rVar 2)))))))))
def b_parts : Sg → Out := q_parts_0
def F_parts : List D → Rs Sl := fnF 4 2 (fun _ => b_parts)
def N_productTo : List Str := ["number", "found", "k"]
def q_productTo_0 : Sg → Out := (sSet 1 (fX (fC (.int 1))))
def q_productTo_1a0 : Sg → Out := (sSet 1 (fBin oMul (lVar 1) (rVar 2)))
def q_productTo_1 : Sg → Out := (sFor 2 (fRng2 (fCons (fC (.int 2)) (fCons (fS (fBin oAdd (lVar 0) (fC (.int 1)))) fNil))) q_productTo_1a0)
def q_productTo_2 : Sg → Out := (sRetV 1)
def b_productTo : Sg → Out := (sSeq q_productTo_0
  (sSeq q_productTo_1
  q_productTo_2))
def F_productTo : List D → Rs Sl := fnF 3 1 (fun _ => b_productTo)
def N_manyRises : List Str := ["one", "other", "sizes", "steps", "found", "size", "step"]
def q_manyRises_0 : Sg → Out := (sDrop (fAppR F_askFiner (fCons (rVar 0) (fCons (rVar 1) fNil))))
def q_manyRises_1 : Sg → Out := (sSet 2 (fAppR F_parts (fCons (rVar 0) (fCons (rVar 1) fNil))))
def q_manyRises_2 : Sg → Out := (sSet 3 (fBin oSub (fS (fApp oSum (fCons (rVar 2) fNil))) (fS (fApp oLen (fCons (rVar 2) fNil)))))
def q_manyRises_3 : Sg → Out := (sSet 4 (fAppR F_productTo (fCons (rVar 3) fNil)))
def q_manyRises_4a0 : Sg → Out := (sSet 4 (fBin oMul (lVar 4) (fS (fAppR F_productTo (fCons (rVar 5) fNil)))))
def q_manyRises_4 : Sg → Out := (sFrz 2 (sFor 5 (fItems (sVar 2)) q_manyRises_4a0))
def q_manyRises_5a0 : Sg → Out := (sSet 4 (fBin oDiv (rVar 4) (fC (.int 2))))
def q_manyRises_5 : Sg → Out := (sFor 6 (fRng1 (fCons (rVar 3) fNil)) q_manyRises_5a0)
def q_manyRises_6 : Sg → Out := (sRetV 4)
def b_manyRises : Sg → Out := (sSeq q_manyRises_0
  (sSeq q_manyRises_1
  (sSeq q_manyRises_2
  (sSeq q_manyRises_3
  (sSeq q_manyRises_4
  (sSeq q_manyRises_5
  q_manyRises_6))))))
def F_manyRises : List D → Rs Sl := fnF 7 2 (fun _ => b_manyRises)
def N_signed : List Str := ["one", "other", "found", "size"]
def q_signed_0 : Sg → Out := (sDrop (fAppR F_askFiner (fCons (rVar 0) (fCons (rVar 1) fNil))))
def q_signed_1 : Sg → Out := (sSet 2 (fX (fC (.int 1))))
def q_signed_2a0 : Sg → Out := (sSet 2 (fBin oMul (lVar 2) (fS (fAppR F_productTo (fCons (fS (fBin oSub (rVar 3) (fC (.int 1)))) fNil)))))
def q_signed_2a1a0 : Sg → Out := (sSet 2 (fUn oNeg (rVar 2)))
def q_signed_2a1 : Sg → Out := (sIf (fTB (fBin oEq (fS (fBin oMod (rVar 3) (fC (.int 2)))) (fC (.int 0)))) q_signed_2a1a0 sNext)
def l_signed_2 : Sg → Out := (sSeq q_signed_2a0
  q_signed_2a1)
def q_signed_2 : Sg → Out := (sFor 3 (fItems (fS (fAppR F_parts (fCons (rVar 0) (fCons (rVar 1) fNil))))) l_signed_2)
def q_signed_3 : Sg → Out := (sRetV 2)
def b_signed : Sg → Out := (sSeq q_signed_0
  (sSeq q_signed_1
  (sSeq q_signed_2
  q_signed_3)))
def F_signed : List D → Rs Sl := fnF 4 2 (fun _ => b_signed)
def N_shown : List Str := ["one", "thing", "share"]
def q_shown_0 : Sg → Out := (sDrop (fAppR F_ask (fCons (rVar 0) fNil)))
def q_shown_1 : Sg → Out := (sRet (fStM oJoin (fC (.str "/")) (fS (fComp 2 (fItems (fS (fApp F_sharesBy (fCons (sVar 0) fNil)))) tTrue (fS (fStM oJoin (fC (.str " ")) (fS (fComp 1 (fItems (sVar 2)) tTrue (fS (fApp oStrI (fCons (rVar 1) fNil)))))))))))
def b_shown : Sg → Out := (sSeq q_shown_0
  q_shown_1)
def F_shown : List D → Rs Sl := fnF 3 1 (fun _ => b_shown)
def N_thingOf : List Str := ["word", "sign"]
def q_thingOf_0a0 : Sg → Out := (sRaise 8)
def q_thingOf_0 : Sg → Out := (sIf (tOr' (tN (fTB (fChain oLe oLe (fC (.int 1)) (fS (fApp oLen (fCons (rVar 0) fNil))) (fC (.int 2))))) (tAn (fTB (fBin oEq (fS (fApp oLen (fCons (rVar 0) fNil))) (fC (.int 2)))) (fTB (fBin oEq (fS (fBin oIdx (lVar 0) (fC (.int 0)))) (fC (.str "0")))))) q_thingOf_0a0 sNext)
def q_thingOf_1a0a0 : Sg → Out := (sRaise 8)
def q_thingOf_1a0 : Sg → Out := (sIf (fTB (fBin oNotIn (rVar 1) (fC (.str "0123456789")))) q_thingOf_1a0a0 sNext)
def q_thingOf_1 : Sg → Out := (sFor 1 (fItems (sVar 0)) q_thingOf_1a0)
def q_thingOf_2 : Sg → Out := (sRet (fApp oIntS (fCons (rVar 0) fNil)))
def b_thingOf : Sg → Out := (sSeq q_thingOf_0
  (sSeq q_thingOf_1
  q_thingOf_2))
def F_thingOf : List D → Rs Sl := fnF 2 1 (fun _ => b_thingOf)
def N_read : List Str := ["text", "shares", "part", "word", "one"]
def q_read_0 : Sg → Out := (sSet 1 (fLst fNil))
def q_read_1a0 : Sg → Out := (sApp 1 (fS (fCompE 3 (fItems (fS (fStM oSplit (rVar 2) (fC (.str " "))))) (fS (fAppR F_thingOf (fCons (rVar 3) fNil))))))
def q_read_1 : Sg → Out := (sFor 2 (fItems (fS (fStM oSplit (rVar 0) (fC (.str "/"))))) q_read_1a0)
def q_read_2a0 : Sg → Out := (sSet 4 (fAppR F_marksOf (fCons (rVar 1) fNil)))
def q_read_2 : Sg → Out := (sTryX 2 8 q_read_2a0)
def q_read_3a0 : Sg → Out := (sRaise 8)
def q_read_3 : Sg → Out := (sIf (fTB (fBin oNe (fS (fAppR F_shown (fCons (rVar 4) fNil))) (rVar 0))) q_read_3a0 sNext)
def q_read_4 : Sg → Out := (sRetV 4)
def b_read : Sg → Out := (sSeq q_read_0
  (sSeq q_read_1
  (sSeq q_read_2
  (sSeq q_read_3
  q_read_4))))
def F_read : List D → Rs Sl := fnF 5 1 (fun _ => b_read)
def N_askThings : List Str := ["things"]
def q_askThings_0a0 : Sg → Out := (sRaise 0)
def q_askThings_0 : Sg → Out := (sIf (tN (fTB (fChain oLe oLe (fC (.int 1)) (rVar 0) (fC (.int 12))))) q_askThings_0a0 sNext)
def b_askThings : Sg → Out := q_askThings_0
def F_askThings : List D → Rs Sl := fnF 1 1 (fun _ => b_askThings)
def N_restCounts : List Str := ["things", "rows", "left", "row", "shares"]
def q_restCounts_0 : Sg → Out := (sSet 1 (fLst (fCons (fS (fBin oMul (fS (fLst (fCons (fC (.int 1)) fNil))) (fS (fBin oAdd (lVar 0) (fC (.int 2)))))) fNil)))
def q_restCounts_1a0 : Sg → Out := (sSet 3 (fLst fNil))
def q_restCounts_1a1a0 : Sg → Out := (sApp 3 (fS (fBin oAdd (fS (fBin oMul (lVar 4) (fS (fBin oIdx (fS (fBin oIdx (lVar 1) (fS (fUn oNeg (fC (.int 1)))))) (rVar 4))))) (fS (fBin oIdx (fS (fBin oIdx (lVar 1) (fS (fUn oNeg (fC (.int 1)))))) (fS (fBin oAdd (lVar 4) (fC (.int 1)))))))))
def q_restCounts_1a1 : Sg → Out := (sFor 4 (fRng1 (fCons (fS (fBin oAdd (fS (fBin oSub (fS (fBin oAdd (lVar 0) (fC (.int 1)))) (rVar 2))) (fC (.int 1)))) fNil)) q_restCounts_1a1a0)
def q_restCounts_1a2 : Sg → Out := (sFrz 3 (sApp 1 (sVar 3)))
def l_restCounts_1 : Sg → Out := (sSeq q_restCounts_1a0
  (sSeq q_restCounts_1a1
  q_restCounts_1a2))
def q_restCounts_1 : Sg → Out := (sFor 2 (fRng2 (fCons (fC (.int 1)) (fCons (fS (fBin oAdd (lVar 0) (fC (.int 1)))) fNil))) l_restCounts_1)
def q_restCounts_2 : Sg → Out := (sRetV 1)
def b_restCounts : Sg → Out := (sSeq q_restCounts_0
  (sSeq q_restCounts_1
  q_restCounts_2))
def F_restCounts : List D → Rs Sl := fnF 5 1 (fun _ => b_restCounts)
def N_many : List Str := ["things"]
def q_many_0 : Sg → Out := (sDrop (fAppR F_askThings (fCons (rVar 0) fNil)))
def q_many_1 : Sg → Out := (sRet (fBin oIdx (fS (fBin oIdx (fS (fApp F_restCounts (fCons (sVar 0) fNil))) (rVar 0))) (fC (.int 0))))
def b_many : Sg → Out := (sSeq q_many_0
  q_many_1)
def F_many : List D → Rs Sl := fnF 1 1 (fun _ => b_many)
def N_manyWith : List Str := ["things", "shares", "row", "thing", "k"]
def q_manyWith_0 : Sg → Out := (sDrop (fAppR F_askThings (fCons (rVar 0) fNil)))
def q_manyWith_1a0 : Sg → Out := (sRaise 6)
def q_manyWith_1 : Sg → Out := (sIf (tN (fTB (fChain oLe oLe (fC (.int 0)) (rVar 1) (fC (.int 12))))) q_manyWith_1a0 sNext)
def q_manyWith_2 : Sg → Out := (sSet 2 (fBin oAdd (fS (fLst (fCons (fC (.int 1)) fNil))) (fS (fBin oMul (fS (fLst (fCons (fC (.int 0)) fNil))) (fC (.int 12))))))
def q_manyWith_3a0 : Sg → Out := (sSet 2 (fBin oAdd (fS (fLst (fCons (fC (.int 0)) fNil))) (fS (fComp 4 (fRng2 (fCons (fC (.int 1)) (fCons (fS (fBin oAdd (fC (.int 12)) (fC (.int 1)))) fNil))) tTrue (fS (fBin oAdd (fS (fBin oMul (lVar 4) (fS (fBin oIdx (lVar 2) (rVar 4))))) (fS (fBin oIdx (lVar 2) (fS (fBin oSub (rVar 4) (fC (.int 1))))))))))))
def q_manyWith_3 : Sg → Out := (sFor 3 (fRng1 (fCons (rVar 0) fNil)) q_manyWith_3a0)
def q_manyWith_4 : Sg → Out := (sRet (fBin oIdx (lVar 2) (rVar 1)))
def b_manyWith : Sg → Out := (sSeq q_manyWith_0
  (sSeq q_manyWith_1
  (sSeq q_manyWith_2
  (sSeq q_manyWith_3
  q_manyWith_4))))
def F_manyWith : List D → Rs Sl := fnF 5 2 (fun _ => b_manyWith)
def N_sharingAt : List Str := ["things", "number", "rows", "found", "free", "thing", "ways", "mark"]
def q_sharingAt_0 : Sg → Out := (sDrop (fAppR F_askThings (fCons (rVar 0) fNil)))
def q_sharingAt_1a0 : Sg → Out := (sRaise 6)
def q_sharingAt_1 : Sg → Out := (sIf (tN (fTB (fChain oLe oLt (fC (.int 0)) (rVar 1) (fS (fAppR F_many (fCons (rVar 0) fNil)))))) q_sharingAt_1a0 sNext)
def q_sharingAt_2 : Sg → Out := (sSet 2 (fApp F_restCounts (fCons (sVar 0) fNil)))
def q_sharingAt_3 : Sg → Out := (sSet 3 (fLst fNil))
def q_sharingAt_4 : Sg → Out := (sSet 4 (fX (fC (.int 0))))
def q_sharingAt_5a0 : Sg → Out := (sSet 6 (fBin oIdx (fS (fBin oIdx (lVar 2) (fS (fBin oSub (fS (fBin oSub (rVar 0) (rVar 5))) (fC (.int 1)))))) (rVar 4)))
def q_sharingAt_5a1 : Sg → Out := (sSet 7 (fApp oMin2 (fCons (rVar 4) (fCons (fS (fBin oDiv (rVar 1) (rVar 6))) fNil))))
def q_sharingAt_5a2 : Sg → Out := (sSet 1 (fBin oSub (rVar 1) (fS (fBin oMul (lVar 7) (rVar 6)))))
def q_sharingAt_5a3 : Sg → Out := (sApp 3 (sVar 7))
def q_sharingAt_5a4 : Sg → Out := (sSet 4 (fApp oMax2 (fCons (rVar 4) (fCons (fS (fBin oAdd (lVar 7) (fC (.int 1)))) fNil))))
def l_sharingAt_5 : Sg → Out := (sSeq q_sharingAt_5a0
  (sSeq q_sharingAt_5a1
  (sSeq q_sharingAt_5a2
  (sSeq q_sharingAt_5a3
  q_sharingAt_5a4))))
def q_sharingAt_5 : Sg → Out := (sFor 5 (fRng1 (fCons (rVar 0) fNil)) l_sharingAt_5)
def q_sharingAt_6 : Sg → Out := (sRetV 3)
def b_sharingAt : Sg → Out := (sSeq q_sharingAt_0
  (sSeq q_sharingAt_1
  (sSeq q_sharingAt_2
  (sSeq q_sharingAt_3
  (sSeq q_sharingAt_4
  (sSeq q_sharingAt_5
  q_sharingAt_6))))))
def F_sharingAt : List D → Rs Sl := fnF 8 2 (fun _ => b_sharingAt)
def N_numberOf : List Str := ["one", "rows", "number", "free", "thing"]
def q_numberOf_0 : Sg → Out := (sDrop (fAppR F_ask (fCons (rVar 0) fNil)))
def q_numberOf_1 : Sg → Out := (sSet 1 (fApp F_restCounts (fCons (fS (fApp oLen (fCons (rVar 0) fNil))) fNil)))
def q_numberOf_2 : Sg → Out := (sSet 2 (fX (fC (.int 0))))
def q_numberOf_3 : Sg → Out := (sSet 3 (fX (fC (.int 0))))
def q_numberOf_4a0 : Sg → Out := (sSet 2 (fBin oAdd (lVar 2) (fS (fBin oMul (fS (fBin oIdx (lVar 0) (rVar 4))) (fS (fBin oIdx (fS (fBin oIdx (lVar 1) (fS (fBin oSub (fS (fBin oSub (fS (fApp oLen (fCons (rVar 0) fNil))) (rVar 4))) (fC (.int 1)))))) (rVar 3)))))))
def q_numberOf_4a1 : Sg → Out := (sSet 3 (fApp oMax2 (fCons (rVar 3) (fCons (fS (fBin oAdd (fS (fBin oIdx (lVar 0) (rVar 4))) (fC (.int 1)))) fNil))))
def l_numberOf_4 : Sg → Out := (sSeq q_numberOf_4a0
  q_numberOf_4a1)
def q_numberOf_4 : Sg → Out := (sFor 4 (fRng1 (fCons (fS (fApp oLen (fCons (rVar 0) fNil))) fNil)) l_numberOf_4)
def q_numberOf_5 : Sg → Out := (sRetV 2)
def b_numberOf : Sg → Out := (sSeq q_numberOf_0
  (sSeq q_numberOf_1
  (sSeq q_numberOf_2
  (sSeq q_numberOf_3
  (sSeq q_numberOf_4
  q_numberOf_5)))))
def F_numberOf : List D → Rs Sl := fnF 5 1 (fun _ => b_numberOf)
def N_manyFiner : List Str := ["one", "found", "share"]
def q_manyFiner_0 : Sg → Out := (sDrop (fAppR F_ask (fCons (rVar 0) fNil)))
def q_manyFiner_1 : Sg → Out := (sSet 1 (fX (fC (.int 1))))
def q_manyFiner_2a0 : Sg → Out := (sSet 1 (fBin oMul (lVar 1) (fS (fAppR F_many (fCons (fS (fApp oLen (fCons (rVar 2) fNil))) fNil)))))
def q_manyFiner_2 : Sg → Out := (sFor 2 (fItems (fS (fApp F_sharesBy (fCons (sVar 0) fNil)))) q_manyFiner_2a0)
def q_manyFiner_3 : Sg → Out := (sRetV 1)
def b_manyFiner : Sg → Out := (sSeq q_manyFiner_0
  (sSeq q_manyFiner_1
  (sSeq q_manyFiner_2
  q_manyFiner_3)))
def F_manyFiner : List D → Rs Sl := fnF 3 1 (fun _ => b_manyFiner)
def N_manyCoarser : List Str := ["one"]
def q_manyCoarser_0 : Sg → Out := (sDrop (fAppR F_ask (fCons (rVar 0) fNil)))
def q_manyCoarser_1 : Sg → Out := (sRet (fAppR F_many (fCons (fS (fBin oAdd (fS (fApp oMax (fCons (rVar 0) fNil))) (fC (.int 1)))) fNil)))
def b_manyCoarser : Sg → Out := (sSeq q_manyCoarser_0
  q_manyCoarser_1)
def F_manyCoarser : List D → Rs Sl := fnF 1 1 (fun _ => b_manyCoarser)
def N_askPairs : List Str := ["things", "pairs", "pair", "thing"]
def q_askPairs_0a0a0a0 : Sg → Out := (sRaise 5)
def q_askPairs_0a0a0 : Sg → Out := (sIf (tN (fTB (fChain oLe oLt (fC (.int 0)) (rVar 3) (rVar 0)))) q_askPairs_0a0a0a0 sNext)
def q_askPairs_0a0 : Sg → Out := (sFor 3 (fItems (sVar 2)) q_askPairs_0a0a0)
def q_askPairs_0 : Sg → Out := (sFor 2 (fItems (sVar 1)) q_askPairs_0a0)
def b_askPairs : Sg → Out := q_askPairs_0
def F_askPairs : List D → Rs Sl := fnF 4 2 (fun _ => b_askPairs)
def N_namesBy : List Str := ["things", "pairs", "names", "pair", "name"]
def q_namesBy_0 : Sg → Out := (sSet 2 (fListRg (rVar 0)))
def q_namesBy_1a0 : Sg → Out := (sFrz 2 (sSet 2 (fComp 4 (fItems (sVar 2)) tTrue (fS (fIf (fTB (fBin oEq (rVar 4) (fS (fBin oIdx (lVar 2) (fS (fBin oIdx (lVar 3) (fC (.int 1)))))))) (fBin oIdx (lVar 2) (fS (fBin oIdx (lVar 3) (fC (.int 0))))) (fX (sVar 4)))))))
def q_namesBy_1 : Sg → Out := (sFor 3 (fItems (sVar 1)) q_namesBy_1a0)
def q_namesBy_2 : Sg → Out := (sRetV 2)
def b_namesBy : Sg → Out := (sSeq q_namesBy_0
  (sSeq q_namesBy_1
  q_namesBy_2))
def F_namesBy : List D → Rs Sl := fnF 5 2 (fun _ => b_namesBy)
def N_sharingOf : List Str := ["things", "pairs"]
def q_sharingOf_0 : Sg → Out := (sDrop (fAppR F_askThings (fCons (rVar 0) fNil)))
def q_sharingOf_1 : Sg → Out := (sDrop (fAppR F_askPairs (fCons (rVar 0) (fCons (rVar 1) fNil))))
def q_sharingOf_2 : Sg → Out := (sRet (fAppR F_marked (fCons (fS (fAppR F_namesBy (fCons (rVar 0) (fCons (rVar 1) fNil)))) fNil)))
def b_sharingOf : Sg → Out := (sSeq q_sharingOf_0
  (sSeq q_sharingOf_1
  q_sharingOf_2))
def F_sharingOf : List D → Rs Sl := fnF 2 2 (fun _ => b_sharingOf)
def N_otherOf : List Str := ["pair", "thing"]
def q_otherOf_0a0 : Sg → Out := (sRet (fBin oIdx (lVar 0) (fC (.int 1))))
def q_otherOf_0 : Sg → Out := (sIf (fTB (fBin oEq (fS (fBin oIdx (lVar 0) (fC (.int 0)))) (rVar 1))) q_otherOf_0a0 sNext)
def q_otherOf_1a0 : Sg → Out := (sRet (fBin oIdx (lVar 0) (fC (.int 0))))
def q_otherOf_1 : Sg → Out := (sIf (fTB (fBin oEq (fS (fBin oIdx (lVar 0) (fC (.int 1)))) (rVar 1))) q_otherOf_1a0 sNext)
def q_otherOf_2 : Sg → Out := (sRet (fX (fC .none)))
def b_otherOf : Sg → Out := (sSeq q_otherOf_0
  (sSeq q_otherOf_1
  q_otherOf_2))
def F_otherOf : List D → Rs Sl := fnF 2 2 (fun _ => b_otherOf)
def N_foundWay : List Str := ["pairs", "one", "other", "ways", "row", "at", "k", "thing"]
def q_foundWay_0 : Sg → Out := (sSet 3 (fDOne (rVar 1) (fLst fNil)))
def q_foundWay_1 : Sg → Out := (sSet 4 (fLst (fCons (sVar 1) fNil)))
def q_foundWay_2 : Sg → Out := (sSet 5 (fX (fC (.int 0))))
def q_foundWay_3a0a0 : Sg → Out := (sSet 7 (fAppR F_otherOf (fCons (fS (fBin oIdx (lVar 0) (rVar 6))) (fCons (fS (fBin oIdx (lVar 4) (rVar 5))) fNil))))
def q_foundWay_3a0a1a0 : Sg → Out := (sOPut 3 (rVar 7) (fBin oAdd (fOGet 3 (fS (fBin oIdx (lVar 4) (rVar 5)))) (fS (fLst (fCons (sVar 6) fNil)))))
def q_foundWay_3a0a1a1 : Sg → Out := (sApp 4 (sVar 7))
def q_foundWay_3a0a1 : Sg → Out := (sIf (tAn (fTB (fBin oIsNot (rVar 7) (fC .none))) (tN (fOIn 3 (rVar 7)))) (sSeq q_foundWay_3a0a1a0
  q_foundWay_3a0a1a1) sNext)
def l_foundWay_3a0 : Sg → Out := (sSeq q_foundWay_3a0a0
  q_foundWay_3a0a1)
def q_foundWay_3a0 : Sg → Out := (sFor 6 (fRng1 (fCons (fS (fApp oLen (fCons (rVar 0) fNil))) fNil)) l_foundWay_3a0)
def q_foundWay_3a1 : Sg → Out := (sSet 5 (fBin oAdd (lVar 5) (fC (.int 1))))
def l_foundWay_3 : Sg → Out := (sSeq q_foundWay_3a0
  q_foundWay_3a1)
def q_foundWay_3 : Sg → Out := (whileF (fTB (fBin oLt (rVar 5) (fS (fApp oLen (fCons (rVar 4) fNil))))) l_foundWay_3 1000)
def q_foundWay_4 : Sg → Out := (sRetO 3 (rVar 2))
def b_foundWay : Sg → Out := (sSeq q_foundWay_0
  (sSeq q_foundWay_1
  (sSeq q_foundWay_2
  (sSeq q_foundWay_3
  q_foundWay_4))))
def F_foundWay : List D → Rs Sl := fnF 8 3 (fun _ => b_foundWay)
def N_wayBy : List Str := ["things", "pairs", "one", "other", "way"]
def q_wayBy_0 : Sg → Out := (sDrop (fAppR F_askThings (fCons (rVar 0) fNil)))
def q_wayBy_1 : Sg → Out := (sDrop (fAppR F_askPairs (fCons (rVar 0) (fCons (rVar 1) fNil))))
def q_wayBy_2 : Sg → Out := (sDrop (fAppR F_askPairs (fCons (rVar 0) (fCons (fS (fLst (fCons (fTup (fCons (sVar 2) (fCons (sVar 3) fNil))) fNil))) fNil))))
def q_wayBy_3 : Sg → Out := (sSet 4 (fAppR F_foundWay (fCons (rVar 1) (fCons (rVar 2) (fCons (rVar 3) fNil)))))
def q_wayBy_4a0 : Sg → Out := (sRaise 7)
def q_wayBy_4 : Sg → Out := (sIf (fTB (fBin oIs (rVar 4) (fC .none))) q_wayBy_4a0 sNext)
def q_wayBy_5 : Sg → Out := (sRetV 4)
def b_wayBy : Sg → Out := (sSeq q_wayBy_0
  (sSeq q_wayBy_1
  (sSeq q_wayBy_2
  (sSeq q_wayBy_3
  (sSeq q_wayBy_4
  q_wayBy_5)))))
def F_wayBy : List D → Rs Sl := fnF 5 4 (fun _ => b_wayBy)
def N_judged : List Str := ["things", "together", "apart", "k", "way"]
def q_judged_0 : Sg → Out := (sDrop (fAppR F_askThings (fCons (rVar 0) fNil)))
def q_judged_1 : Sg → Out := (sDrop (fAppR F_askPairs (fCons (rVar 0) (fCons (rVar 1) fNil))))
def q_judged_2 : Sg → Out := (sDrop (fAppR F_askPairs (fCons (rVar 0) (fCons (rVar 2) fNil))))
def q_judged_3a0 : Sg → Out := (sSet 4 (fAppR F_foundWay (fCons (rVar 1) (fCons (fS (fBin oIdx (fS (fBin oIdx (lVar 2) (rVar 3))) (fC (.int 0)))) (fCons (fS (fBin oIdx (fS (fBin oIdx (lVar 2) (rVar 3))) (fC (.int 1)))) fNil)))))
def q_judged_3a1a0 : Sg → Out := (sRetTL 4 (fC (.str "clash")) (sVar 3))
def q_judged_3a1 : Sg → Out := (sIf (fTB (fBin oIsNot (rVar 4) (fC .none))) q_judged_3a1a0 sNext)
def l_judged_3 : Sg → Out := (sSeq q_judged_3a0
  q_judged_3a1)
def q_judged_3 : Sg → Out := (sFor 3 (fRng1 (fCons (fS (fApp oLen (fCons (rVar 2) fNil))) fNil)) l_judged_3)
def q_judged_4 : Sg → Out := (sRet (fTL (fC (.str "sharing")) (fAppR F_marked (fCons (fS (fAppR F_namesBy (fCons (rVar 0) (fCons (rVar 1) fNil)))) fNil))))
def b_judged : Sg → Out := (sSeq q_judged_0
  (sSeq q_judged_1
  (sSeq q_judged_2
  (sSeq q_judged_3
  q_judged_4))))
def F_judged : List D → Rs Sl := fnF 5 3 (fun _ => b_judged)
def N_LcellAt : List Str := ["script", "k"]
def q_LcellAt_0a0 : Sg → Out := (sRet (fBin oIdx (lVar 0) (rVar 1)))
def q_LcellAt_0 : Sg → Out := (sIf (fTB (fBin oLt (rVar 1) (fS (fApp oLen (fCons (rVar 0) fNil))))) q_LcellAt_0a0 sNext)
def q_LcellAt_1 : Sg → Out := (sRet (fX (fC (.int 0))))
def b_LcellAt : Sg → Out := (sSeq q_LcellAt_0
  q_LcellAt_1)
def F_LcellAt : List D → Rs Sl := fnF 2 2 (fun _ => b_LcellAt)
def N_Lwhich : List Str := ["e", "first"]
def h_which : Nat → Option (List Bool) := fun c => if c = 0 then some [true, false, false, false, false, false, false, false, false, true] else if c = 1 then some [false, true, false, false, false, false, false, false, false, true] else if c = 2 then some [false, false, true, false, false, false, false, false, false, true] else if c = 3 then some [false, false, false, true, false, false, false, false, false, true] else if c = 4 then some [false, false, false, false, true, false, false, false, false, true] else if c = 5 then some [false, false, false, false, false, true, false, false, false, true] else if c = 6 then some [false, false, false, false, false, false, true, false, false, true] else if c = 7 then some [false, false, false, false, false, false, false, true, false, true] else if c = 8 then some [false, false, false, false, false, false, false, false, true, true] else none
def N_LofTwo : List Str := ["way", "one", "other"]
def q_LofTwo_0a0 : Sg → Out := (sDrop (fAppR F_isFiner (fCons (rVar 1) (fCons (rVar 2) fNil))))
def q_LofTwo_0b0a0 : Sg → Out := (sDrop (fAppR F_meeting (fCons (rVar 1) (fCons (rVar 2) fNil))))
def q_LofTwo_0b0b0a0 : Sg → Out := (sDrop (fAppR F_joining (fCons (rVar 1) (fCons (rVar 2) fNil))))
def q_LofTwo_0b0b0b0a0 : Sg → Out := (sDrop (fApp F_rise (fCons (sVar 1) (fCons (sVar 2) fNil))))
def q_LofTwo_0b0b0b0b0a0 : Sg → Out := (sDrop (fAppR F_manyRises (fCons (rVar 1) (fCons (rVar 2) fNil))))
def q_LofTwo_0b0b0b0b0b0 : Sg → Out := (sDrop (fAppR F_signed (fCons (rVar 1) (fCons (rVar 2) fNil))))
def q_LofTwo_0b0b0b0b0 : Sg → Out := (sIf (fTB (fBin oEq (rVar 0) (fC (.int 4)))) q_LofTwo_0b0b0b0b0a0 q_LofTwo_0b0b0b0b0b0)
def q_LofTwo_0b0b0b0 : Sg → Out := (sIf (fTB (fBin oEq (rVar 0) (fC (.int 3)))) q_LofTwo_0b0b0b0a0 q_LofTwo_0b0b0b0b0)
def q_LofTwo_0b0b0 : Sg → Out := (sIf (fTB (fBin oEq (rVar 0) (fC (.int 2)))) q_LofTwo_0b0b0a0 q_LofTwo_0b0b0b0)
def q_LofTwo_0b0 : Sg → Out := (sIf (fTB (fBin oEq (rVar 0) (fC (.int 1)))) q_LofTwo_0b0a0 q_LofTwo_0b0b0)
def q_LofTwo_0 : Sg → Out := (sIf (fTB (fBin oEq (rVar 0) (fC (.int 0)))) q_LofTwo_0a0 q_LofTwo_0b0)
def b_LofTwo : Sg → Out := q_LofTwo_0
def F_LofTwo : List D → Rs Sl := fnF 3 3 (fun _ => b_LofTwo)
def N_LnoThings : List Str := ["cell", "far", "things", "way"]
def q_LnoThings_0 : Sg → Out := (sSet 2 (fBin oIdx (fS (fLst (fCons (fC (.int 0)) (fCons (fC (.int 13)) (fCons (fS (fUn oNeg (rVar 1))) (fCons (fS (fBin oAdd (fC (.int 13)) (lVar 1))) fNil)))))) (fS (fBin oMod (rVar 0) (fC (.int 4))))))
def q_LnoThings_1 : Sg → Out := (sSet 3 (fBin oMod (fS (fBin oDiv (rVar 0) (fC (.int 4)))) (fC (.int 6))))
def q_LnoThings_2a0 : Sg → Out := (sDrop (fAppR F_many (fCons (rVar 2) fNil)))
def q_LnoThings_2b0a0 : Sg → Out := (sDrop (fAppR F_manyWith (fCons (rVar 2) (fCons (fS (fUn oNeg (fC (.int 1)))) fNil))))
def q_LnoThings_2b0b0a0 : Sg → Out := (sDrop (fAppR F_sharingAt (fCons (rVar 2) (fCons (fS (fUn oNeg (fC (.int 1)))) fNil))))
def q_LnoThings_2b0b0b0a0 : Sg → Out := (sDrop (fAppR F_sharingOf (fCons (rVar 2) (fCons (fS (fLst (fCons (fTup (fCons (fC (.int 99)) (fCons (fC (.int 0)) fNil))) fNil))) fNil))))
def q_LnoThings_2b0b0b0b0a0 : Sg → Out := (sDrop (fAppR F_wayBy (fCons (rVar 2) (fCons (fS (fLst fNil)) (fCons (fC (.int 0)) (fCons (fC (.int 99)) fNil))))))
def q_LnoThings_2b0b0b0b0b0 : Sg → Out := (sDrop (fApp F_judged (fCons (sVar 2) (fCons (fS (fLst (fCons (fTup (fCons (fC (.int 0)) (fCons (fS (fUn oNeg (fC (.int 1)))) fNil))) fNil))) (fCons (fS (fLst (fCons (fTup (fCons (fC (.int 77)) (fCons (fC (.int 0)) fNil))) fNil))) fNil)))))
def q_LnoThings_2b0b0b0b0 : Sg → Out := (sIf (fTB (fBin oEq (rVar 3) (fC (.int 4)))) q_LnoThings_2b0b0b0b0a0 q_LnoThings_2b0b0b0b0b0)
def q_LnoThings_2b0b0b0 : Sg → Out := (sIf (fTB (fBin oEq (rVar 3) (fC (.int 3)))) q_LnoThings_2b0b0b0a0 q_LnoThings_2b0b0b0b0)
def q_LnoThings_2b0b0 : Sg → Out := (sIf (fTB (fBin oEq (rVar 3) (fC (.int 2)))) q_LnoThings_2b0b0a0 q_LnoThings_2b0b0b0)
def q_LnoThings_2b0 : Sg → Out := (sIf (fTB (fBin oEq (rVar 3) (fC (.int 1)))) q_LnoThings_2b0a0 q_LnoThings_2b0b0)
def q_LnoThings_2 : Sg → Out := (sIf (fTB (fBin oEq (rVar 3) (fC (.int 0)))) q_LnoThings_2a0 q_LnoThings_2b0)
def b_LnoThings : Sg → Out := (sSeq q_LnoThings_0
  (sSeq q_LnoThings_1
  q_LnoThings_2))
def F_LnoThings : List D → Rs Sl := fnF 4 2 (fun _ => b_LnoThings)
def N_LnoSharing : List Str := ["cell", "far", "some", "bad", "way"]
def q_LnoSharing_0 : Sg → Out := (sSet 2 (fLst (fCons (fS (fLst fNil)) (fCons (fS (fLst (fCons (fC (.int 1)) fNil))) (fCons (fS (fLst (fCons (fC (.int 0)) (fCons (fC (.int 2)) fNil)))) (fCons (fS (fLst (fCons (fC (.int 0)) (fCons (fS (fBin oSub (fS (fUn oNeg (fC (.int 1)))) (rVar 1))) fNil)))) (fCons (fS (fLst (fCons (fC (.int 0)) (fCons (fC (.int 1)) (fCons (fS (fBin oAdd (fC (.int 3)) (lVar 1))) fNil))))) (fCons (fS (fBin oMul (fS (fLst (fCons (fC (.int 0)) fNil))) (fC (.int 13)))) (fCons (fS (fLst (fCons (fC (.int 0)) (fCons (fC (.int 0)) (fCons (fC (.int 2)) (fCons (fC (.int 1)) fNil)))))) fNil)))))))))
def q_LnoSharing_1 : Sg → Out := (sSet 3 (fBin oIdx (lVar 2) (fS (fBin oMod (rVar 0) (fC (.int 7))))))
def q_LnoSharing_2 : Sg → Out := (sSet 4 (fBin oMod (fS (fBin oDiv (rVar 0) (fC (.int 7)))) (fC (.int 18))))
def q_LnoSharing_3a0 : Sg → Out := (sDrop (fAppR F_LofTwo (fCons (rVar 4) (fCons (rVar 3) (fCons (fS (fLst (fCons (fC (.int 0)) (fCons (fC (.int 0)) fNil)))) fNil)))))
def q_LnoSharing_3b0a0 : Sg → Out := (sDrop (fAppR F_LofTwo (fCons (fS (fBin oSub (rVar 4) (fC (.int 6)))) (fCons (fS (fLst (fCons (fC (.int 0)) (fCons (fC (.int 1)) fNil)))) (fCons (rVar 3) fNil)))))
def q_LnoSharing_3b0b0a0 : Sg → Out := (sDrop (fApp F_sharesOf (fCons (sVar 3) fNil)))
def q_LnoSharing_3b0b0b0a0 : Sg → Out := (sDrop (fAppR F_sizes (fCons (rVar 3) fNil)))
def q_LnoSharing_3b0b0b0b0a0 : Sg → Out := (sDrop (fAppR F_numberOf (fCons (rVar 3) fNil)))
def q_LnoSharing_3b0b0b0b0b0a0 : Sg → Out := (sDrop (fAppR F_manyFiner (fCons (rVar 3) fNil)))
def q_LnoSharing_3b0b0b0b0b0b0a0 : Sg → Out := (sDrop (fAppR F_manyCoarser (fCons (rVar 3) fNil)))
def q_LnoSharing_3b0b0b0b0b0b0b0 : Sg → Out := (sDrop (fAppR F_shown (fCons (rVar 3) fNil)))
def q_LnoSharing_3b0b0b0b0b0b0 : Sg → Out := (sIf (fTB (fBin oEq (rVar 4) (fC (.int 16)))) q_LnoSharing_3b0b0b0b0b0b0a0 q_LnoSharing_3b0b0b0b0b0b0b0)
def q_LnoSharing_3b0b0b0b0b0 : Sg → Out := (sIf (fTB (fBin oEq (rVar 4) (fC (.int 15)))) q_LnoSharing_3b0b0b0b0b0a0 q_LnoSharing_3b0b0b0b0b0b0)
def q_LnoSharing_3b0b0b0b0 : Sg → Out := (sIf (fTB (fBin oEq (rVar 4) (fC (.int 14)))) q_LnoSharing_3b0b0b0b0a0 q_LnoSharing_3b0b0b0b0b0)
def q_LnoSharing_3b0b0b0 : Sg → Out := (sIf (fTB (fBin oEq (rVar 4) (fC (.int 13)))) q_LnoSharing_3b0b0b0a0 q_LnoSharing_3b0b0b0b0)
def q_LnoSharing_3b0b0 : Sg → Out := (sIf (fTB (fBin oEq (rVar 4) (fC (.int 12)))) q_LnoSharing_3b0b0a0 q_LnoSharing_3b0b0b0)
def q_LnoSharing_3b0 : Sg → Out := (sIf (fTB (fBin oLt (rVar 4) (fC (.int 12)))) q_LnoSharing_3b0a0 q_LnoSharing_3b0b0)
def q_LnoSharing_3 : Sg → Out := (sIf (fTB (fBin oLt (rVar 4) (fC (.int 6)))) q_LnoSharing_3a0 q_LnoSharing_3b0)
def b_LnoSharing : Sg → Out := (sSeq q_LnoSharing_0
  (sSeq q_LnoSharing_1
  (sSeq q_LnoSharing_2
  q_LnoSharing_3)))
def F_LnoSharing : List D → Rs Sl := fnF 5 2 (fun _ => b_LnoSharing)
def N_LnoThing : List Str := ["cell", "far", "bad", "pair", "way"]
def q_LnoThing_0 : Sg → Out := (sSet 2 (fBin oIdx (fS (fLst (fCons (fC (.int 3)) (fCons (fS (fUn oNeg (fC (.int 1)))) (fCons (fS (fBin oAdd (fC (.int 3)) (lVar 1))) (fCons (fS (fBin oSub (fS (fUn oNeg (fC (.int 1)))) (rVar 1))) fNil)))))) (fS (fBin oMod (rVar 0) (fC (.int 4))))))
def q_LnoThing_1 : Sg → Out := (sSet 3 (fBin oIdx (fS (fLst (fCons (fTup (fCons (sVar 2) (fCons (fC (.int 0)) fNil))) (fCons (fTup (fCons (fC (.int 1)) (fCons (sVar 2) fNil))) fNil)))) (fS (fBin oMod (fS (fBin oDiv (rVar 0) (fC (.int 4)))) (fC (.int 2))))))
def q_LnoThing_2 : Sg → Out := (sSet 4 (fBin oMod (fS (fBin oDiv (rVar 0) (fC (.int 8)))) (fC (.int 6))))
def q_LnoThing_3a0 : Sg → Out := (sDrop (fAppR F_sharingOf (fCons (fC (.int 3)) (fCons (fS (fLst (fCons (fTup (fCons (fC (.int 0)) (fCons (fC (.int 1)) fNil))) (fCons (sVar 3) fNil)))) fNil))))
def q_LnoThing_3b0a0 : Sg → Out := (sDrop (fAppR F_wayBy (fCons (fC (.int 3)) (fCons (fS (fLst (fCons (sVar 3) (fCons (fTup (fCons (fC (.int 0)) (fCons (fC (.int 1)) fNil))) fNil)))) (fCons (fC (.int 0)) (fCons (fC (.int 2)) fNil))))))
def q_LnoThing_3b0b0a0 : Sg → Out := (sDrop (fAppR F_wayBy (fCons (fC (.int 3)) (fCons (fS (fLst (fCons (fTup (fCons (fC (.int 0)) (fCons (fC (.int 1)) fNil))) fNil))) (fCons (rVar 2) (fCons (fC (.int 0)) fNil))))))
def q_LnoThing_3b0b0b0a0 : Sg → Out := (sDrop (fAppR F_wayBy (fCons (fC (.int 3)) (fCons (fS (fLst fNil)) (fCons (fC (.int 0)) (fCons (rVar 2) fNil))))))
def q_LnoThing_3b0b0b0b0a0 : Sg → Out := (sDrop (fApp F_judged (fCons (fC (.int 3)) (fCons (fS (fLst (fCons (fTup (fCons (fC (.int 0)) (fCons (fC (.int 1)) fNil))) (fCons (sVar 3) fNil)))) (fCons (fS (fLst (fCons (fTup (fCons (fC (.int 0)) (fCons (fC (.int 1)) fNil))) fNil))) fNil)))))
def q_LnoThing_3b0b0b0b0b0 : Sg → Out := (sDrop (fApp F_judged (fCons (fC (.int 3)) (fCons (fS (fLst (fCons (fTup (fCons (fC (.int 0)) (fCons (fC (.int 1)) fNil))) fNil))) (fCons (fS (fLst (fCons (fTup (fCons (fC (.int 0)) (fCons (fC (.int 1)) fNil))) (fCons (sVar 3) fNil)))) fNil)))))
def q_LnoThing_3b0b0b0b0 : Sg → Out := (sIf (fTB (fBin oEq (rVar 4) (fC (.int 4)))) q_LnoThing_3b0b0b0b0a0 q_LnoThing_3b0b0b0b0b0)
def q_LnoThing_3b0b0b0 : Sg → Out := (sIf (fTB (fBin oEq (rVar 4) (fC (.int 3)))) q_LnoThing_3b0b0b0a0 q_LnoThing_3b0b0b0b0)
def q_LnoThing_3b0b0 : Sg → Out := (sIf (fTB (fBin oEq (rVar 4) (fC (.int 2)))) q_LnoThing_3b0b0a0 q_LnoThing_3b0b0b0)
def q_LnoThing_3b0 : Sg → Out := (sIf (fTB (fBin oEq (rVar 4) (fC (.int 1)))) q_LnoThing_3b0a0 q_LnoThing_3b0b0)
def q_LnoThing_3 : Sg → Out := (sIf (fTB (fBin oEq (rVar 4) (fC (.int 0)))) q_LnoThing_3a0 q_LnoThing_3b0)
def b_LnoThing : Sg → Out := (sSeq q_LnoThing_0
  (sSeq q_LnoThing_1
  (sSeq q_LnoThing_2
  q_LnoThing_3)))
def F_LnoThing : List D → Rs Sl := fnF 5 2 (fun _ => b_LnoThing)
def N_LnoNumber : List Str := ["cell", "far", "way"]
def q_LnoNumber_0 : Sg → Out := (sSet 2 (fBin oMod (rVar 0) (fC (.int 2))))
def q_LnoNumber_1a0 : Sg → Out := (sDrop (fAppR F_manyWith (fCons (fC (.int 3)) (fCons (fS (fBin oIdx (fS (fLst (fCons (fS (fUn oNeg (fC (.int 1)))) (fCons (fC (.int 13)) (fCons (fS (fBin oSub (fS (fUn oNeg (fC (.int 1)))) (rVar 1))) (fCons (fS (fBin oAdd (fC (.int 13)) (lVar 1))) fNil)))))) (fS (fBin oMod (fS (fBin oDiv (rVar 0) (fC (.int 2)))) (fC (.int 4)))))) fNil))))
def q_LnoNumber_1b0 : Sg → Out := (sDrop (fAppR F_sharingAt (fCons (fC (.int 3)) (fCons (fS (fBin oIdx (fS (fLst (fCons (fS (fUn oNeg (fC (.int 1)))) (fCons (fC (.int 5)) (fCons (fS (fBin oSub (fS (fUn oNeg (fC (.int 1)))) (rVar 1))) (fCons (fS (fBin oAdd (fC (.int 5)) (lVar 1))) fNil)))))) (fS (fBin oMod (fS (fBin oDiv (rVar 0) (fC (.int 2)))) (fC (.int 4)))))) fNil))))
def q_LnoNumber_1 : Sg → Out := (sIf (fTB (fBin oEq (rVar 2) (fC (.int 0)))) q_LnoNumber_1a0 q_LnoNumber_1b0)
def b_LnoNumber : Sg → Out := (sSeq q_LnoNumber_0
  q_LnoNumber_1)
def F_LnoNumber : List D → Rs Sl := fnF 3 2 (fun _ => b_LnoNumber)
def N_Ldone : List Str := ["way", "cell", "far"]
def q_Ldone_0a0 : Sg → Out := (sDrop (fAppR F_LnoThings (fCons (rVar 1) (fCons (rVar 2) fNil))))
def q_Ldone_0b0a0 : Sg → Out := (sDrop (fAppR F_LnoSharing (fCons (rVar 1) (fCons (rVar 2) fNil))))
def q_Ldone_0b0b0a0 : Sg → Out := (sDrop (fAppR F_marksOf (fCons (fS (fBin oIdx (fS (fLst (fCons (fS (fLst fNil)) (fCons (fS (fLst (fCons (fS (fLst fNil)) fNil))) (fCons (fS (fLst (fCons (fS (fLst (fCons (fC (.int 0)) fNil))) (fCons (fS (fLst (fCons (fC (.int 0)) fNil))) fNil)))) (fCons (fS (fLst (fCons (fS (fLst (fCons (fC (.int 1)) fNil))) fNil))) (fCons (fS (fLst (fCons (fS (fLst (fCons (fC (.int 0)) (fCons (fC (.int 2)) fNil)))) fNil))) (fCons (fS (fLst (fCons (fS (fLst (fCons (fC (.int 0)) fNil))) (fCons (fS (fLst (fCons (fS (fBin oAdd (fS (fBin oAdd (fC (.int 1)) (lVar 2))) (fC (.int 1)))) fNil))) fNil)))) (fCons (fS (fLst (fCons (fS (fLst (fCons (fC (.int 0)) fNil))) (fCons (fS (fLst fNil)) (fCons (fS (fLst (fCons (fC (.int 1)) fNil))) fNil))))) fNil))))))))) (fS (fBin oMod (rVar 1) (fC (.int 7)))))) fNil)))
def q_Ldone_0b0b0b0a0 : Sg → Out := (sDrop (fAppR F_LofTwo (fCons (fS (fBin oMod (rVar 1) (fC (.int 6)))) (fCons (fS (fBin oIdx (fS (fLst (fCons (fS (fLst (fCons (fC (.int 0)) (fCons (fC (.int 1)) (fCons (fC (.int 0)) fNil))))) (fCons (fS (fLst (fCons (fC (.int 0)) fNil))) fNil)))) (fS (fBin oMod (fS (fBin oDiv (rVar 1) (fC (.int 6)))) (fC (.int 2)))))) (fCons (fS (fLst (fCons (fC (.int 0)) (fCons (fC (.int 1)) fNil)))) fNil)))))
def q_Ldone_0b0b0b0b0a0 : Sg → Out := (sDrop (fAppR F_LofTwo (fCons (fS (fBin oAdd (fC (.int 3)) (fS (fBin oMod (rVar 1) (fC (.int 3)))))) (fCons (fS (fBin oIdx (fS (fLst (fCons (fS (fLst (fCons (fC (.int 0)) (fCons (fC (.int 0)) (fCons (fC (.int 1)) fNil))))) (fCons (fS (fLst (fCons (fC (.int 0)) (fCons (fC (.int 0)) (fCons (fC (.int 0)) fNil))))) (fCons (fS (fLst (fCons (fC (.int 0)) (fCons (fC (.int 1)) (fCons (fC (.int 1)) fNil))))) fNil))))) (fS (fBin oMod (fS (fBin oDiv (rVar 1) (fC (.int 3)))) (fC (.int 3)))))) (fCons (fS (fLst (fCons (fC (.int 0)) (fCons (fC (.int 1)) (fCons (fC (.int 0)) fNil))))) fNil)))))
def q_Ldone_0b0b0b0b0b0a0 : Sg → Out := (sDrop (fAppR F_LnoThing (fCons (rVar 1) (fCons (rVar 2) fNil))))
def q_Ldone_0b0b0b0b0b0b0a0 : Sg → Out := (sDrop (fAppR F_LnoNumber (fCons (rVar 1) (fCons (rVar 2) fNil))))
def q_Ldone_0b0b0b0b0b0b0b0a0 : Sg → Out := (sDrop (fAppR F_wayBy (fCons (fC (.int 4)) (fCons (fS (fLst (fCons (fTup (fCons (fC (.int 0)) (fCons (fC (.int 1)) fNil))) (fCons (fTup (fCons (fC (.int 3)) (fCons (fC (.int 3)) fNil))) (fCons (fTup (fCons (fC (.int 1)) (fCons (fC (.int 0)) fNil))) fNil))))) (fCons (fS (fBin oMod (rVar 1) (fC (.int 2)))) (fCons (fS (fBin oAdd (fC (.int 2)) (fS (fBin oMod (fS (fBin oDiv (rVar 1) (fC (.int 2)))) (fC (.int 2)))))) fNil))))))
def q_Ldone_0b0b0b0b0b0b0b0b0 : Sg → Out := (sDrop (fAppR F_read (fCons (fS (fBin oIdx (fS (fLst (fCons (fC (.str "")) (fCons (fC (.str "0/")) (fCons (fC (.str "1/0")) (fCons (fC (.str "0 0")) (fCons (fC (.str "a")) (fCons (fC (.str "0  1")) (fCons (fC (.str "12")) fNil))))))))) (fS (fBin oMod (rVar 1) (fC (.int 7)))))) fNil)))
def q_Ldone_0b0b0b0b0b0b0b0 : Sg → Out := (sIf (fTB (fBin oEq (rVar 0) (fC (.int 7)))) q_Ldone_0b0b0b0b0b0b0b0a0 q_Ldone_0b0b0b0b0b0b0b0b0)
def q_Ldone_0b0b0b0b0b0b0 : Sg → Out := (sIf (fTB (fBin oEq (rVar 0) (fC (.int 6)))) q_Ldone_0b0b0b0b0b0b0a0 q_Ldone_0b0b0b0b0b0b0b0)
def q_Ldone_0b0b0b0b0b0 : Sg → Out := (sIf (fTB (fBin oEq (rVar 0) (fC (.int 5)))) q_Ldone_0b0b0b0b0b0a0 q_Ldone_0b0b0b0b0b0b0)
def q_Ldone_0b0b0b0b0 : Sg → Out := (sIf (fTB (fBin oEq (rVar 0) (fC (.int 4)))) q_Ldone_0b0b0b0b0a0 q_Ldone_0b0b0b0b0b0)
def q_Ldone_0b0b0b0 : Sg → Out := (sIf (fTB (fBin oEq (rVar 0) (fC (.int 3)))) q_Ldone_0b0b0b0a0 q_Ldone_0b0b0b0b0)
def q_Ldone_0b0b0 : Sg → Out := (sIf (fTB (fBin oEq (rVar 0) (fC (.int 2)))) q_Ldone_0b0b0a0 q_Ldone_0b0b0b0)
def q_Ldone_0b0 : Sg → Out := (sIf (fTB (fBin oEq (rVar 0) (fC (.int 1)))) q_Ldone_0b0a0 q_Ldone_0b0b0)
def q_Ldone_0 : Sg → Out := (sIf (fTB (fBin oEq (rVar 0) (fC (.int 0)))) q_Ldone_0a0 q_Ldone_0b0)
def b_Ldone : Sg → Out := q_Ldone_0
def F_Ldone : List D → Rs Sl := fnF 3 3 (fun _ => b_Ldone)
def N_law : List Str := ["script", "way", "far", "told", "e", "k"]
def q_law_0 : Sg → Out := (sSet 1 (fBin oMod (fS (fAppR F_LcellAt (fCons (rVar 0) (fCons (fC (.int 0)) fNil)))) (fC (.int 9))))
def q_law_1 : Sg → Out := (sSet 2 (fBin oMod (fS (fAppR F_LcellAt (fCons (rVar 0) (fCons (fC (.int 2)) fNil)))) (fS (fBin oPow (fC (.int 10)) (fC (.int 59))))))
def q_law_2 : Sg → Out := (sSet 3 (fLst fNil))
def q_law_3a0 : Sg → Out := (sDrop (fAppR F_Ldone (fCons (rVar 1) (fCons (fS (fAppR F_LcellAt (fCons (rVar 0) (fCons (fC (.int 1)) fNil)))) (fCons (rVar 2) fNil)))))
def q_law_3 : Sg → Out := (sTryW 3 4 h_which q_law_3a0)
def q_law_4 : Sg → Out := (sRet (fBin oEq (rVar 3) (fS (fComp 5 (fRng1 (fCons (fC (.int 10)) fNil)) tTrue (fS (fOr (fBin oEq (rVar 5) (rVar 1)) (fBin oEq (rVar 5) (fC (.int 9)))))))))
def b_law : Sg → Out := (sSeq q_law_0
  (sSeq q_law_1
  (sSeq q_law_2
  (sSeq q_law_3
  q_law_4))))
def F_law : List D → Rs Sl := fnF 6 1 (fun _ => b_law)
end Sh

namespace Sh
open PySem PySem.Spec PyProof.Rows L2
/-! ### F_marked -/
structure Mkd {α κ : Type} [DecidableEq α] [DecidableEq κ] (key : α → κ) (s : List α) (kvs : List (κ × D)) : Prop where
  len : kvs.length = s.length
  vl : ∀ x, valD kvs (key x) = if x ∈ s then some (.int (s.idxOf x : Nat)) else none
theorem Mkd.put {α κ : Type} [DecidableEq α] [DecidableEq κ] {key : α → κ} {s : List α} {kvs : List (κ × D)} (m : Mkd key s kvs) (hinj : ∀ x y, key x = key y → x = y) {x : α} (hx : x ∉ s) : Mkd key (s ++ [x]) (putD kvs (key x) (.int kvs.length)) := by
  have hv := m.vl x
  rw [if_neg hx] at hv
  have ha : ¬ (kvs.any fun kv => decide (kv.1 = key x)) = true := by
    rw [← valD_any, hv]; simp
  refine ⟨by unfold putD; rw [if_neg ha]; simp [m.len], fun y => ?_⟩
  rw [valD_put, m.vl, m.len]
  by_cases hy : y = x
  · subst hy
    simp [List.idxOf_append, hx]
  · have : ¬ key y = key x := fun z => hy (hinj _ _ z)
    rw [if_neg this]
    by_cases hys : y ∈ s
    · simp [List.idxOf_append, hys]
    · simp [hys, hy]
section
variable {α : Type} [DecidableEq α]
theorem marked_loop (e : α → D) (key : α → Key) (hk : ∀ x, keyK (e x) = some (key x)) (hinj : ∀ x y, key x = key y → x = y) (xs : List α) (hl : xs.length ≤ 1000) : ∃ kvs x2, loopF 2 q_marked_1a0 (xs.map e) [.sh (.list (xs.map e)), .od [], .un] = .nx [.sh (.list (xs.map e)), .od kvs, x2] ∧ Mkd key (firsts [] xs) kvs := by
  obtain ⟨S, h1, kvs, x2, rfl, m⟩ := loop_inv (e := e) (g := q_marked_1a0) (j := 2) (fun pre S => ∃ kvs x2, S = [.sh (.list (xs.map e)), .od kvs, x2] ∧ Mkd key (firsts [] pre) kvs) xs (by
    rintro pre x post S hx ⟨kvs, x2, rfl, m⟩
    have hlen := firsts_len pre ([] : List α)
    have hl2 : pre.length < 1000 := by
      have := congrArg List.length hx
      simp at this; omega
    have hlim : kvs.length < LIM := by have := m.len; simp only [List.length_nil] at hlen; unfold LIM; omega
    rw [firsts_snoc]
    by_cases hm : x ∈ firsts [] pre
    · refine ⟨[.sh (.list (xs.map e)), .od kvs, .sh (e x)], .inl ?_, _, _, rfl, by rw [if_pos hm]; exact m⟩
      simp [q_marked_1a0, q_marked_1a0a0, fDIn, sSeq, sIf, fTB, fBin, rVar, lVar, sVar, fApp, fCons, fNil, Rs.bind, Rs.thenO, Rs.tb, Sl.d?, fS, fX, fC, sRet, sNext, sSet, fUn, tN, tAn, tOr', oLt, oLe, oGt, oGe, oLen, fAppR, flatS, scalD, sFor, fItems, oItems, fRng1, oRng1, fRng2, oRng2, sDrop, sRaise, sRetV, fIf, fLst, fTup, oSub, oNeg, oMax2, oMin2, oList, oIntB, noExC, sRetN, frz, sFrz, fMth, fListRg, oNone, oSome, hk, m.vl, hm]
    · refine ⟨[.sh (.list (xs.map e)), .od (putD kvs (key x) (.int kvs.length)), .sh (e x)], .inl ?_, _, _, rfl, by rw [if_neg hm]; exact m.put hinj hm⟩
      simp [q_marked_1a0, q_marked_1a0a0, fDIn, sDPutF, fDLen, sSeq, sIf, fTB, fBin, rVar, lVar, sVar, fApp, fCons, fNil, Rs.bind, Rs.thenO, Rs.tb, Sl.d?, fS, fX, fC, sRet, sNext, sSet, fUn, tN, tAn, tOr', oLt, oLe, oGt, oGe, oLen, fAppR, flatS, scalD, sFor, fItems, oItems, fRng1, oRng1, fRng2, oRng2, sDrop, sRaise, sRetV, fIf, fLst, fTup, oSub, oNeg, oMax2, oMin2, oList, oIntB, noExC, sRetN, frz, sFrz, fMth, fListRg, oNone, oSome, hk, m.vl, hm, hlim]) (S := [.sh (.list (xs.map e)), .od [], .un]) ⟨[], _, rfl, ⟨rfl, fun x => by simp [valD, firsts]⟩⟩
  exact ⟨kvs, x2, h1, m⟩
theorem b_marked_eq (e : α → D) (key : α → Key) (hk : ∀ x, keyK (e x) = some (key x)) (hinj : ∀ x y, key x = key y → x = y) (xs : List α) (hl : xs.length ≤ 1000) : b_marked [.sh (.list (xs.map e)), .un, .un] = .rt (.ow (L (canon xs))) := by
  obtain ⟨kvs, x2, h1, m⟩ := marked_loop e key hk hinj xs hl
  have hc : fComp 2 (fItems (sVar 0)) tTrue (fDGet 1 (rVar 2)) [.sh (.list (xs.map e)), .od kvs, x2] = .ok (.ow (xs.map fun x => PyData.int ((firsts [] xs).idxOf x : Nat))) := by
    refine fComp_map (e := e) xs rfl (by unfold LIM; omega) fun x hx => ?_
    have hm : x ∈ firsts [] xs := (mem_firsts _ _ _).mpr (.inr hx)
    simp [fDGet, sSeq, sIf, fTB, fBin, rVar, lVar, sVar, fApp, fCons, fNil, Rs.bind, Rs.thenO, Rs.tb, Sl.d?, fS, fX, fC, sRet, sNext, sSet, fUn, tN, tAn, tOr', oLt, oLe, oGt, oGe, oLen, fAppR, flatS, scalD, sFor, fItems, oItems, fRng1, oRng1, fRng2, oRng2, sDrop, sRaise, sRetV, fIf, fLst, fTup, oSub, oNeg, oMax2, oMin2, oList, oIntB, noExC, sRetN, frz, sFrz, fMth, fListRg, oNone, oSome, hk, m.vl, hm]
  simp [b_marked, q_marked_0, q_marked_1, q_marked_2, sSeq, sIf, fTB, fBin, rVar, lVar, sVar, fApp, fCons, fNil, Rs.bind, Rs.thenO, Rs.tb, Sl.d?, fS, fX, fC, sRet, sNext, sSet, fUn, tN, tAn, tOr', oLt, oLe, oGt, oGe, oLen, fAppR, flatS, scalD, sFor, fItems, oItems, fRng1, oRng1, fRng2, oRng2, sDrop, sRaise, sRetV, fIf, fLst, fTup, oSub, oNeg, oMax2, oMin2, oList, oIntB, noExC, sRetN, frz, sFrz, fMth, fListRg, oNone, oSome, h1]
  rw [hc]
  simp [L, canon]
theorem markedT_loop (e : α → D) (key : α → List Key) (hk : ∀ x, keyT (e x) = some (key x)) (hinj : ∀ x y, key x = key y → x = y) (xs : List α) (hl : xs.length ≤ 1000) : ∃ kvs x2, loopF 2 q_markedT_1a0 (xs.map e) [.sh (.list (xs.map e)), .ot [], .un] = .nx [.sh (.list (xs.map e)), .ot kvs, x2] ∧ Mkd key (firsts [] xs) kvs := by
  obtain ⟨S, h1, kvs, x2, rfl, m⟩ := loop_inv (e := e) (g := q_markedT_1a0) (j := 2) (fun pre S => ∃ kvs x2, S = [.sh (.list (xs.map e)), .ot kvs, x2] ∧ Mkd key (firsts [] pre) kvs) xs (by
    rintro pre x post S hx ⟨kvs, x2, rfl, m⟩
    have hlen := firsts_len pre ([] : List α)
    have hl2 : pre.length < 1000 := by
      have := congrArg List.length hx
      simp at this; omega
    have hlim : kvs.length < LIM := by have := m.len; simp only [List.length_nil] at hlen; unfold LIM; omega
    rw [firsts_snoc]
    by_cases hm : x ∈ firsts [] pre
    · refine ⟨[.sh (.list (xs.map e)), .ot kvs, .sh (e x)], .inl ?_, _, _, rfl, by rw [if_pos hm]; exact m⟩
      simp [q_markedT_1a0, q_markedT_1a0a0, fDIn, sSeq, sIf, fTB, fBin, rVar, lVar, sVar, fApp, fCons, fNil, Rs.bind, Rs.thenO, Rs.tb, Sl.d?, fS, fX, fC, sRet, sNext, sSet, fUn, tN, tAn, tOr', oLt, oLe, oGt, oGe, oLen, fAppR, flatS, scalD, sFor, fItems, oItems, fRng1, oRng1, fRng2, oRng2, sDrop, sRaise, sRetV, fIf, fLst, fTup, oSub, oNeg, oMax2, oMin2, oList, oIntB, noExC, sRetN, frz, sFrz, fMth, fListRg, oNone, oSome, hk, m.vl, hm]
    · refine ⟨[.sh (.list (xs.map e)), .ot (putD kvs (key x) (.int kvs.length)), .sh (e x)], .inl ?_, _, _, rfl, by rw [if_neg hm]; exact m.put hinj hm⟩
      simp [q_markedT_1a0, q_markedT_1a0a0, fDIn, sDPutF, fDLen, sSeq, sIf, fTB, fBin, rVar, lVar, sVar, fApp, fCons, fNil, Rs.bind, Rs.thenO, Rs.tb, Sl.d?, fS, fX, fC, sRet, sNext, sSet, fUn, tN, tAn, tOr', oLt, oLe, oGt, oGe, oLen, fAppR, flatS, scalD, sFor, fItems, oItems, fRng1, oRng1, fRng2, oRng2, sDrop, sRaise, sRetV, fIf, fLst, fTup, oSub, oNeg, oMax2, oMin2, oList, oIntB, noExC, sRetN, frz, sFrz, fMth, fListRg, oNone, oSome, hk, m.vl, hm, hlim]) (S := [.sh (.list (xs.map e)), .ot [], .un]) ⟨[], _, rfl, ⟨rfl, fun x => by simp [valD, firsts]⟩⟩
  exact ⟨kvs, x2, h1, m⟩
theorem b_markedT_eq (e : α → D) (key : α → List Key) (hk : ∀ x, keyT (e x) = some (key x)) (hinj : ∀ x y, key x = key y → x = y) (xs : List α) (hl : xs.length ≤ 1000) : b_markedT [.sh (.list (xs.map e)), .un, .un] = .rt (.ow (L (canon xs))) := by
  obtain ⟨kvs, x2, h1, m⟩ := markedT_loop e key hk hinj xs hl
  have hc : fComp 2 (fItems (sVar 0)) tTrue (fDGet 1 (rVar 2)) [.sh (.list (xs.map e)), .ot kvs, x2] = .ok (.ow (xs.map fun x => PyData.int ((firsts [] xs).idxOf x : Nat))) := by
    refine fComp_map (e := e) xs rfl (by unfold LIM; omega) fun x hx => ?_
    have hm : x ∈ firsts [] xs := (mem_firsts _ _ _).mpr (.inr hx)
    simp [fDGet, sSeq, sIf, fTB, fBin, rVar, lVar, sVar, fApp, fCons, fNil, Rs.bind, Rs.thenO, Rs.tb, Sl.d?, fS, fX, fC, sRet, sNext, sSet, fUn, tN, tAn, tOr', oLt, oLe, oGt, oGe, oLen, fAppR, flatS, scalD, sFor, fItems, oItems, fRng1, oRng1, fRng2, oRng2, sDrop, sRaise, sRetV, fIf, fLst, fTup, oSub, oNeg, oMax2, oMin2, oList, oIntB, noExC, sRetN, frz, sFrz, fMth, fListRg, oNone, oSome, hk, m.vl, hm]
  simp [b_markedT, q_markedT_0, q_markedT_1, q_markedT_2, sSeq, sIf, fTB, fBin, rVar, lVar, sVar, fApp, fCons, fNil, Rs.bind, Rs.thenO, Rs.tb, Sl.d?, fS, fX, fC, sRet, sNext, sSet, fUn, tN, tAn, tOr', oLt, oLe, oGt, oGe, oLen, fAppR, flatS, scalD, sFor, fItems, oItems, fRng1, oRng1, fRng2, oRng2, sDrop, sRaise, sRetV, fIf, fLst, fTup, oSub, oNeg, oMax2, oMin2, oList, oIntB, noExC, sRetN, frz, sFrz, fMth, fListRg, oNone, oSome, h1]
  rw [hc]
  simp [L, canon]
end
theorem F_marked_L (xs : List Nat) (hl : xs.length ≤ 1000) : F_marked [.list (L xs)] = .ok (.ow (L (canon xs))) := by
  have h := b_marked_eq (fun m : Nat => PyData.int (m : Int)) (fun m => (.inl (m : Int) : Key)) (fun _ => rfl) (fun x y h => by simpa only [Sum.inl.injEq, Int.natCast_inj] using h) xs hl
  cases xs with
  | nil => simp only [F_marked, fnF, L_nil]; simp at h ⊢; rw [h]
  | cons m r => simp only [F_marked, fnF, L_cons]; simp [L] at h ⊢; rw [h]
def pD (p : Nat × Nat) : D := .tuple [.int (p.1 : Int), .int (p.2 : Int)]
theorem cmpP : Cmp pD 1 := ⟨fun _ => by simp [pD, PyData.canLay0, PyData.canLayAll0], fun _ => by simp [pD, PyData.depth, PyData.depthAll], fun a b => by simp [pD, PyData.eqv, PyData.eqvAll, Prod.ext_iff, Int.natCast_inj]⟩
theorem F_marked_P (xs : List (Nat × Nat)) (h0 : 1 ≤ xs.length) (hl : xs.length ≤ 1000) : F_marked [.list (xs.map pD)] = .ok (.ow (L (canon xs))) := by
  have h := b_markedT_eq pD (fun p => ([.inl (p.1 : Int), .inl (p.2 : Int)] : List Key)) (fun p => by simp [pD, keyT, keysOf, keyK]) (fun x y h => by simpa [Prod.ext_iff, Int.natCast_inj] using h) xs hl
  cases xs with
  | nil => simp at h0
  | cons m r => simp only [F_marked, fnF, List.map_cons, pD]; simp [pD] at h ⊢; rw [h]
/-! ### F_marksOf -/
theorem F_marksOf_all (mss : List (List Int)) (hl1 : mss.length ≤ 1000) (hl2 : mss.flatten.length ≤ 1000) :
    (¬ (1 ≤ mss.flatten.length ∧ mss.flatten.length ≤ 12 ∧ mss.flatten.Perm (zs (List.range mss.flatten.length))) → F_marksOf [.list (ILL mss)] = .ex 2) ∧
    (1 ≤ mss.flatten.length → mss.flatten.length ≤ 12 → mss.flatten.Perm (zs (List.range mss.flatten.length)) → (∃ s ∈ mss, s = []) → F_marksOf [.list (ILL mss)] = .ex 2) ∧
    (1 ≤ mss.flatten.length → mss.flatten.length ≤ 12 → mss.flatten.Perm (zs (List.range mss.flatten.length)) → (∀ s ∈ mss, s ≠ []) → ∃ names : List Nat, F_marksOf [.list (ILL mss)] = .ok (.ow (L (canon names))) ∧ names.length = mss.flatten.length ∧ ∀ (k : Nat) (s : List Int) (t : Nat), mss[k]? = some s → (t : Int) ∈ s → names[t]? = some k) := by
  have h0 : q_marksOf_0 [.sh (.list (ILL mss)), .un, .un, .un, .un, .un] = .nx [.sh (.list (ILL mss)), .ow [], .un, .un, .un, .un] := by
    simp [q_marksOf_0, sSeq, sIf, fTB, fBin, rVar, lVar, sVar, fApp, fCons, fNil, Rs.bind, Rs.thenO, Rs.tb, Sl.d?, fS, fX, fC, sRet, sNext, sSet, fUn, tN, tAn, tOr', oLt, oLe, oGt, oGe, oLen, fAppR, flatS, scalD, sFor, fItems, oItems, fRng1, oRng1, fRng2, oRng2, sDrop, sRaise, sRetV, fIf, fLst, fTup, oSub, oNeg, oMax2, oMin2, oList, oIntB, noExC, sRetN, frz, sFrz, fMth, fListRg, oNone, oSome, LIM]
  obtain ⟨S, hS, x2, rfl⟩ := loop_inv (e := fun s => PyData.list (IL s)) (g := q_marksOf_1a0) (j := 2) (fun pre S => ∃ x2, S = [.sh (.list (ILL mss)), .ow (IL pre.flatten), x2, .un, .un, .un]) mss (by
    rintro pre s post S hs ⟨x2, rfl⟩
    have hle : pre.flatten.length + s.length ≤ LIM := by
      have := congrArg (fun l => l.flatten.length) hs
      simp only [List.flatten_append, List.flatten_cons, List.length_append] at this
      unfold LIM
      omega
    refine ⟨[.sh (.list (ILL mss)), .ow (IL (pre ++ [s]).flatten), .sh (.list (IL s)), .un, .un, .un], .inl ?_, _, rfl⟩
    have : IL (pre ++ [s]).flatten = IL pre.flatten ++ IL s := by rw [← IL_app]; simp
    rw [this]
    simp [q_marksOf_1a0, sSeq, sIf, fTB, fBin, rVar, lVar, sVar, fApp, fCons, fNil, Rs.bind, Rs.thenO, Rs.tb, Sl.d?, fS, fX, fC, sRet, sNext, sSet, fUn, tN, tAn, tOr', oLt, oLe, oGt, oGe, oLen, fAppR, flatS, scalD, sFor, fItems, oItems, fRng1, oRng1, fRng2, oRng2, sDrop, sRaise, sRetV, fIf, fLst, fTup, oSub, oNeg, oMax2, oMin2, oList, oIntB, noExC, sRetN, frz, sFrz, fMth, fListRg, oNone, oSome, oAdd_list _ _ (show (IL pre.flatten).length + (IL s).length ≤ LIM by simpa using hle)]) (S := [.sh (.list (ILL mss)), .ow [], .un, .un, .un, .un]) ⟨_, rfl⟩
  have h1 : q_marksOf_1 [.sh (.list (ILL mss)), .ow [], .un, .un, .un, .un] = .nx [.sh (.list (ILL mss)), .ow (IL mss.flatten), x2, .un, .un, .un] := by
    simp [q_marksOf_1, sSeq, sIf, fTB, fBin, rVar, lVar, sVar, fApp, fCons, fNil, Rs.bind, Rs.thenO, Rs.tb, Sl.d?, fS, fX, fC, sRet, sNext, sSet, fUn, tN, tAn, tOr', oLt, oLe, oGt, oGe, oLen, fAppR, flatS, scalD, sFor, fItems, oItems, fRng1, oRng1, fRng2, oRng2, sDrop, sRaise, sRetV, fIf, fLst, fTup, oSub, oNeg, oMax2, oMin2, oList, oIntB, noExC, sRetN, frz, sFrz, fMth, fListRg, oNone, oSome]
    exact hS
  generalize hw : mss.flatten = w at *
  have g2 : ¬ (1 ≤ w.length ∧ w.length ≤ 12 ∧ w.Perm (zs (List.range w.length))) → ∃ S, q_marksOf_2 [.sh (.list (ILL mss)), .ow (IL w), x2, .un, .un, .un] = .ex 2 S := by
    intro hc
    by_cases c1 : 1 ≤ w.length
    · by_cases c2 : w.length ≤ 12
      · have c3 : ¬ isort w = zs (List.range w.length) := fun z => hc ⟨c1, c2, (isort_iff c2).mp z⟩
        have d1 : (1 : Int) ≤ w.length := by omega
        have d2 : (w.length : Int) ≤ 12 := by omega
        have d3 : (-1000 : Int) ≤ w.length := by omega
        have d4 : (w.length : Int) ≤ LIM := by unfold LIM; omega
        have d5 : w.length < 64 := by omega
        have d6 := oNe_IL (isort w) (zs (List.range w.length))
        have d7 : IL (zs (List.range w.length)) = (List.range w.length).map fun i : Nat => PyData.int (i : Int) := by rw [← L_IL]; rfl
        rw [d7] at d6
        exact ⟨_, by simp [q_marksOf_2, q_marksOf_2a0, sSeq, sIf, fTB, fBin, rVar, lVar, sVar, fApp, fCons, fNil, Rs.bind, Rs.thenO, Rs.tb, Sl.d?, fS, fX, fC, sRet, sNext, sSet, fUn, tN, tAn, tOr', oLt, oLe, oGt, oGe, oLen, fAppR, flatS, scalD, sFor, fItems, oItems, fRng1, oRng1, fRng2, oRng2, sDrop, sRaise, sRetV, fIf, fLst, fTup, oSub, oNeg, oMax2, oMin2, oList, oIntB, noExC, sRetN, frz, sFrz, fMth, fListRg, oNone, oSome, fChain_eq, d1, d2, d3, d4, d5, d6, c3, oSorted, IL_ints, ← IL.eq_1]; rfl⟩
      · have d1 : (1 : Int) ≤ w.length := by omega
        have d2 : ¬ (w.length : Int) ≤ 12 := by omega
        exact ⟨_, by simp [q_marksOf_2, q_marksOf_2a0, sSeq, sIf, fTB, fBin, rVar, lVar, sVar, fApp, fCons, fNil, Rs.bind, Rs.thenO, Rs.tb, Sl.d?, fS, fX, fC, sRet, sNext, sSet, fUn, tN, tAn, tOr', oLt, oLe, oGt, oGe, oLen, fAppR, flatS, scalD, sFor, fItems, oItems, fRng1, oRng1, fRng2, oRng2, sDrop, sRaise, sRetV, fIf, fLst, fTup, oSub, oNeg, oMax2, oMin2, oList, oIntB, noExC, sRetN, frz, sFrz, fMth, fListRg, oNone, oSome, fChain_eq, d1, d2]; rfl⟩
    · have d1 : ¬ (1 : Int) ≤ w.length := by omega
      exact ⟨_, by simp [q_marksOf_2, q_marksOf_2a0, sSeq, sIf, fTB, fBin, rVar, lVar, sVar, fApp, fCons, fNil, Rs.bind, Rs.thenO, Rs.tb, Sl.d?, fS, fX, fC, sRet, sNext, sSet, fUn, tN, tAn, tOr', oLt, oLe, oGt, oGe, oLen, fAppR, flatS, scalD, sFor, fItems, oItems, fRng1, oRng1, fRng2, oRng2, sDrop, sRaise, sRetV, fIf, fLst, fTup, oSub, oNeg, oMax2, oMin2, oList, oIntB, noExC, sRetN, frz, sFrz, fMth, fListRg, oNone, oSome, fChain_eq, d1]; rfl⟩
  have p2 : 1 ≤ w.length → w.length ≤ 12 → w.Perm (zs (List.range w.length)) → q_marksOf_2 [.sh (.list (ILL mss)), .ow (IL w), x2, .un, .un, .un] = .nx [.sh (.list (ILL mss)), .ow (IL w), x2, .un, .un, .un] := by
    intro c1 c2 c3
    have d1 : (1 : Int) ≤ w.length := by omega
    have d2 : (w.length : Int) ≤ 12 := by omega
    have d3 : (-1000 : Int) ≤ w.length := by omega
    have d4 : (w.length : Int) ≤ LIM := by unfold LIM; omega
    have d5 : w.length < 64 := by omega
    have d6 := oNe_IL (isort w) (zs (List.range w.length))
    have d7 : IL (zs (List.range w.length)) = (List.range w.length).map fun i : Nat => PyData.int (i : Int) := by rw [← L_IL]; rfl
    rw [d7] at d6
    have d8 := (isort_iff c2).mpr c3
    rw [d8] at d6
    simp [q_marksOf_2, q_marksOf_2a0, sSeq, sIf, fTB, fBin, rVar, lVar, sVar, fApp, fCons, fNil, Rs.bind, Rs.thenO, Rs.tb, Sl.d?, fS, fX, fC, sRet, sNext, sSet, fUn, tN, tAn, tOr', oLt, oLe, oGt, oGe, oLen, fAppR, flatS, scalD, sFor, fItems, oItems, fRng1, oRng1, fRng2, oRng2, sDrop, sRaise, sRetV, fIf, fLst, fTup, oSub, oNeg, oMax2, oMin2, oList, oIntB, noExC, sRetN, frz, sFrz, fMth, fListRg, oNone, oSome, fChain_eq, d1, d2, d3, d4, d5, d6, d8, oSorted, IL_ints, ← IL.eq_1]
  have p3 : 1 ≤ w.length → w.length ≤ 12 → q_marksOf_3 [.sh (.list (ILL mss)), .ow (IL w), x2, .un, .un, .un] = .nx [.sh (.list (ILL mss)), .ow (IL w), x2, .ow (L (List.replicate w.length 0)), .un, .un] := by
    intro c1 c2
    have d2 : (w.length : Int) ≤ 1000 := by omega
    have d3 : (-1000 : Int) ≤ w.length := by omega
    have d4 : w.length ≤ LIM := by unfold LIM; omega
    have d6 : w.length ≤ 10000 := by omega
    simp [q_marksOf_3, sSeq, sIf, fTB, fBin, rVar, lVar, sVar, fApp, fCons, fNil, Rs.bind, Rs.thenO, Rs.tb, Sl.d?, fS, fX, fC, sRet, sNext, sSet, fUn, tN, tAn, tOr', oLt, oLe, oGt, oGe, oLen, fAppR, flatS, scalD, sFor, fItems, oItems, fRng1, oRng1, fRng2, oRng2, sDrop, sRaise, sRetV, fIf, fLst, fTup, oSub, oNeg, oMax2, oMin2, oList, oIntB, noExC, sRetN, frz, sFrz, fMth, fListRg, oNone, oSome, oMul, d2, d3]
    simp [LIM, d2, d6, L]
  have hr0 : (-1000 : Int) ≤ mss.length := by omega
  have hr1 : (mss.length : Int) ≤ LIM := by unfold LIM; omega
  have p4 : 1 ≤ w.length → w.length ≤ 12 → w.Perm (zs (List.range w.length)) → (∃ S, q_marksOf_4 [.sh (.list (ILL mss)), .ow (IL w), x2, .ow (L (List.replicate w.length 0)), .un, .un] = .ex 2 S ∧ ∃ s ∈ mss, s = []) ∨ ∃ (names : List Nat) (x4 x5 : Sl), q_marksOf_4 [.sh (.list (ILL mss)), .ow (IL w), x2, .ow (L (List.replicate w.length 0)), .un, .un] = .nx [.sh (.list (ILL mss)), .ow (IL w), x2, .ow (L names), x4, x5] ∧ names.length = w.length ∧ (∀ (k : Nat) (s : List Int) (t : Nat), mss[k]? = some s → (t : Int) ∈ s → names[t]? = some k) ∧ ∀ s ∈ mss, s ≠ [] := by
    intro c1 c2 c3
    have hnd : mss.flatten.Nodup := by rw [hw]; exact (c3.nodup_iff).mpr (nodup_zrange _)
    have hin : ∀ (k : Nat) (s : List Int) (x : Int), mss[k]? = some s → x ∈ s → ∃ t : Nat, x = t ∧ t < w.length := by
      intro k s x hk hx
      refine mem_zrange.mp (c3.mem_iff.mp ?_)
      rw [← hw, List.mem_flatten]
      exact ⟨s, List.mem_of_getElem? hk, hx⟩
    have := rng_exc (g := l_marksOf_4) (j := 4) (fun k S => ∃ (names : List Nat) (x4 x5 : Sl), S = [.sh (.list (ILL mss)), .ow (IL w), x2, .ow (L names), x4, x5] ∧ names.length = w.length ∧ (∀ (k' : Nat) (s : List Int) (t : Nat), k' < k → mss[k']? = some s → (t : Int) ∈ s → names[t]? = some k') ∧ ∀ (k' : Nat) (s : List Int), k' < k → mss[k']? = some s → s ≠ []) (fun c => c = 2 ∧ ∃ s ∈ mss, s = []) mss.length (by
      rintro k S hk ⟨names, x4, x5, rfl, n1, n2, n3⟩
      have gk := List.getElem?_eq_getElem hk
      generalize mss[k] = s at gk
      have ek : oIdx (.list (ILL mss)) (.int (k : Int)) = .ok (.sh (.list (IL s))) := oIdx_nat (by rw [ILL_get, gk]; rfl)
      by_cases hs : s = []
      · subst hs
        refine .inr ⟨2, [.sh (.list (ILL mss)), .ow (IL w), x2, .ow (L names), .sh (.int (k : Int)), x5], ?_, rfl, [], List.mem_of_getElem? gk, rfl⟩
        · show l_marksOf_4 [.sh (.list (ILL mss)), .ow (IL w), x2, .ow (L names), .sh (.int (k : Int)), x5] = _
          simp [l_marksOf_4, q_marksOf_4a0, q_marksOf_4a0a0, sSeq, sIf, fTB, fBin, rVar, lVar, sVar, fApp, fCons, fNil, Rs.bind, Rs.thenO, Rs.tb, Sl.d?, fS, fX, fC, sRet, sNext, sSet, fUn, tN, tAn, tOr', oLt, oLe, oGt, oGe, oLen, fAppR, flatS, scalD, sFor, fItems, oItems, fRng1, oRng1, fRng2, oRng2, sDrop, sRaise, sRetV, fIf, fLst, fTup, oSub, oNeg, oMax2, oMin2, oList, oIntB, noExC, sRetN, frz, sFrz, fMth, fListRg, oNone, oSome, ek]
      · have hl0 : ¬ ((s.length : Nat) : Int) = 0 := by
          have := List.length_pos_iff.mpr hs
          omega
        obtain ⟨S, hS, names', x5', rfl, m1, m2, m3⟩ := loop_inv (e := PyData.int) (g := q_marksOf_4a1a0) (j := 5) (fun pre S => ∃ (names : List Nat) (x5 : Sl), S = [.sh (.list (ILL mss)), .ow (IL w), x2, .ow (L names), .sh (.int (k : Int)), x5] ∧ names.length = w.length ∧ (∀ (k' : Nat) (s : List Int) (t : Nat), k' < k → mss[k']? = some s → (t : Int) ∈ s → names[t]? = some k') ∧ ∀ t : Nat, (t : Int) ∈ pre → names[t]? = some k) s (by
          rintro pre x post S hx ⟨names, x5, rfl, n1, n2, n3⟩
          obtain ⟨t, rfl, ht⟩ := hin k s x gk (by rw [hx]; simp)
          have hix : ixN names.length ((t : Nat) : Int) = some t := by
            have h1 : (t : Int) < names.length := by omega
            simp [ixN, h1]
          have hset : (L names).set t (.int (k : Int)) = L (names.set t k) := by simp [L, List.map_set]
          refine ⟨[.sh (.list (ILL mss)), .ow (IL w), x2, .ow (L (names.set t k)), .sh (.int (k : Int)), .sh (.int (t : Int))], .inl ?_, _, _, rfl, by simpa using n1, fun k' s' t' hk' hs' ht' => ?_, fun t' ht' => ?_⟩
          · simp [q_marksOf_4a1a0, sSeq, sIf, fTB, fBin, rVar, lVar, sVar, fApp, fCons, fNil, Rs.bind, Rs.thenO, Rs.tb, Sl.d?, fS, fX, fC, sRet, sNext, sSet, fUn, tN, tAn, tOr', oLt, oLe, oGt, oGe, oLen, fAppR, flatS, scalD, sFor, fItems, oItems, fRng1, oRng1, fRng2, oRng2, sDrop, sRaise, sRetV, fIf, fLst, fTup, oSub, oNeg, oMax2, oMin2, oList, oIntB, noExC, sRetN, frz, sFrz, fMth, fListRg, oNone, oSome, sSetAt, hix, hset]
          · have hne : ¬ t = t' := fun z => by
              subst z
              have := flat_disj hnd hs' gk ht' (by rw [hx]; simp)
              omega
            rw [List.getElem?_set_ne hne]
            exact n2 k' s' t' hk' hs' ht'
          · by_cases z : t = t'
            · subst z
              rw [List.getElem?_set_self (by omega)]
            · rw [List.getElem?_set_ne z]
              refine n3 t' ?_
              rcases List.mem_append.mp ht' with h | h
              · exact h
              · have : (t' : Int) = t := by simpa using h
                omega) (S := [.sh (.list (ILL mss)), .ow (IL w), x2, .ow (L names), .sh (.int (k : Int)), x5]) ⟨names, _, rfl, n1, n2, by simp⟩
        refine .inl ⟨[.sh (.list (ILL mss)), .ow (IL w), x2, .ow (L names'), .sh (.int (k : Int)), x5'], .inl ?_, _, _, _, rfl, m1, fun k' s' t' hk' hs' ht' => ?_, fun k' s' hk' hs' => ?_⟩
        · show l_marksOf_4 [.sh (.list (ILL mss)), .ow (IL w), x2, .ow (L names), .sh (.int (k : Int)), x5] = _
          simp [l_marksOf_4, q_marksOf_4a0, q_marksOf_4a0a0, q_marksOf_4a1, sSeq, sIf, fTB, fBin, rVar, lVar, sVar, fApp, fCons, fNil, Rs.bind, Rs.thenO, Rs.tb, Sl.d?, fS, fX, fC, sRet, sNext, sSet, fUn, tN, tAn, tOr', oLt, oLe, oGt, oGe, oLen, fAppR, flatS, scalD, sFor, fItems, oItems, fRng1, oRng1, fRng2, oRng2, sDrop, sRaise, sRetV, fIf, fLst, fTup, oSub, oNeg, oMax2, oMin2, oList, oIntB, noExC, sRetN, frz, sFrz, fMth, fListRg, oNone, oSome, ek, hl0, hs]
          exact hS
        · by_cases z : k' = k
          · subst z
            rw [gk] at hs'; cases hs'
            exact m3 t' ht'
          · exact m2 k' s' t' (by omega) hs' ht'
        · by_cases z : k' = k
          · subst z
            rw [gk] at hs'; cases hs'
            exact hs
          · exact n3 k' s' (by omega) hs') (S := [.sh (.list (ILL mss)), .ow (IL w), x2, .ow (L (List.replicate w.length 0)), .un, .un]) ⟨_, _, _, rfl, by simp, fun k' s t h => by omega, fun k' s h => by omega⟩
    have hq : q_marksOf_4 [.sh (.list (ILL mss)), .ow (IL w), x2, .ow (L (List.replicate w.length 0)), .un, .un] = loopF 4 l_marksOf_4 (L (List.range mss.length)) [.sh (.list (ILL mss)), .ow (IL w), x2, .ow (L (List.replicate w.length 0)), .un, .un] := by
      simp [q_marksOf_4, sSeq, sIf, fTB, fBin, rVar, lVar, sVar, fApp, fCons, fNil, Rs.bind, Rs.thenO, Rs.tb, Sl.d?, fS, fX, fC, sRet, sNext, sSet, fUn, tN, tAn, tOr', oLt, oLe, oGt, oGe, oLen, fAppR, flatS, scalD, sFor, fItems, oItems, fRng1, oRng1, fRng2, oRng2, sDrop, sRaise, sRetV, fIf, fLst, fTup, oSub, oNeg, oMax2, oMin2, oList, oIntB, noExC, sRetN, frz, sFrz, fMth, fListRg, oNone, oSome, hr0, hr1, L_range]
    rw [hq]
    rcases this with ⟨S, hS, names, x4, x5, rfl, n1, n2, n3⟩ | ⟨c, S, hS, rfl, he⟩
    · refine .inr ⟨names, x4, x5, hS, n1, fun k s t hk ht => n2 k s t ?_ hk ht, fun s hs => ?_⟩
      · exact (List.getElem?_eq_some_iff.mp hk).1
      · obtain ⟨k, hk, rfl⟩ := List.getElem_of_mem hs
        exact n3 k _ hk (List.getElem?_eq_getElem hk)
    · exact .inl ⟨S, hS, he⟩
  refine ⟨fun hc => ?_, fun c1 c2 c3 he => ?_, fun c1 c2 c3 hne => ?_⟩
  · obtain ⟨S, e2⟩ := g2 hc
    simp [F_marksOf, fnF, b_marksOf, sSeq, h0, h1, e2]
  · rcases p4 c1 c2 c3 with ⟨S, e4, _⟩ | ⟨names, x4, x5, e4, n1, n2, n3⟩
    · simp [F_marksOf, fnF, b_marksOf, sSeq, h0, h1, p2 c1 c2 c3, p3 c1 c2, e4]
    · obtain ⟨s, hs, rfl⟩ := he
      exact absurd rfl (n3 [] hs)
  · rcases p4 c1 c2 c3 with ⟨S, e4, s, hs, rfl⟩ | ⟨names, x4, x5, e4, n1, n2, n3⟩
    · exact absurd rfl (hne [] hs)
    · refine ⟨names, ?_, n1, n2⟩
      have hm := F_marked_L names (by omega)
      have e5 : q_marksOf_5 [.sh (.list (ILL mss)), .ow (IL w), x2, .ow (L names), x4, x5] = .rt (.ow (L (canon names))) := by
        simp [q_marksOf_5, sSeq, sIf, fTB, fBin, rVar, lVar, sVar, fApp, fCons, fNil, Rs.bind, Rs.thenO, Rs.tb, Sl.d?, fS, fX, fC, sRet, sNext, sSet, fUn, tN, tAn, tOr', oLt, oLe, oGt, oGe, oLen, fAppR, flatS, scalD, sFor, fItems, oItems, fRng1, oRng1, fRng2, oRng2, sDrop, sRaise, sRetV, fIf, fLst, fTup, oSub, oNeg, oMax2, oMin2, oList, oIntB, noExC, sRetN, frz, sFrz, fMth, fListRg, oNone, oSome, hm]
      simp [F_marksOf, fnF, b_marksOf, sSeq, h0, h1, p2 c1 c2 c3, p3 c1 c2, e4, e5]
/-- the shares of a sharing in any order, each in any order: its marks -/
theorem F_marksOf_back {ms : List Nat} (h : Shg ms) (mss : List (List Nat)) (hl : mss.length ≤ 1000) (hp : mss.flatten.Perm (List.range ms.length)) (hne : ∀ s ∈ mss, s ≠ []) (hc : ∀ s ∈ mss, ∀ t ∈ s, ∀ t' : Nat, t' < ms.length → (t' ∈ s ↔ ms[t']? = ms[t]?)) : F_marksOf [.list (LL mss)] = .ok (.ow (L ms)) := by
  have hlen : (mss.map zs).flatten.length = ms.length := by
    rw [zs_flatten, zs_length, hp.length_eq, List.length_range]
  have hpos := h.pos
  have hle := h.le
  obtain ⟨names, e, n1, n2⟩ := (F_marksOf_all (mss.map zs) (by simpa using hl) (by omega)).2.2 (by omega) (by omega) (by rw [hlen, zs_flatten]; exact zs_perm hp) (fun s hs => by
    obtain ⟨s', h1, rfl⟩ := List.mem_map.mp hs
    have := hne s' h1
    intro z
    exact this (List.map_eq_nil_iff.mp z))
  have n2' : ∀ (k : Nat) (s : List Nat) (t : Nat), mss[k]? = some s → t ∈ s → names[t]? = some k := fun k s t hk ht => n2 k (zs s) t (by rw [List.getElem?_map, hk]; rfl) (mem_zs.mpr ht)
  have hcov : ∀ t : Nat, t < ms.length → ∃ (k : Nat) (s : List Nat), mss[k]? = some s ∧ t ∈ s := by
    intro t ht
    have : t ∈ mss.flatten := hp.mem_iff.mpr (List.mem_range.mpr ht)
    obtain ⟨s, hs, hts⟩ := List.mem_flatten.mp this
    obtain ⟨k, hk, rfl⟩ := List.getElem_of_mem hs
    exact ⟨k, _, List.getElem?_eq_getElem hk, hts⟩
  rw [LL_ILL, e]
  congr 3
  refine canon_eq h.good ⟨by omega, fun i j hi hj => ?_⟩
  obtain ⟨k, s, hk, hs⟩ := hcov i hi
  obtain ⟨k', s', hk', hs'⟩ := hcov j hj
  rw [n2' k s i hk hs, n2' k' s' j hk' hs']
  constructor
  · intro q
    have : j ∈ s := (hc s (List.mem_of_getElem? hk) i hs j hj).mpr q.symm
    rw [← n2' k s j hk this, ← n2' k' s' j hk' hs']
  · intro q
    cases q
    rw [hk] at hk'; cases hk'
    exact ((hc s (List.mem_of_getElem? hk) i hs j hj).mp hs').symm
theorem mod_nat (x : Int) (n : Nat) (h : 0 < n) : ∃ m : Nat, x % (n : Int) = (m : Int) ∧ m < n := by
  have p1 := Int.emod_nonneg x (show (n : Int) ≠ 0 by omega)
  have p2 := Int.emod_lt_of_pos x (show (0 : Int) < n by omega)
  exact ⟨(x % (n : Int)).toNat, by omega, by omega⟩
/-! ### who raises -/
theorem askThings_ex {t : Int} (h : t ≤ 0 ∨ 13 ≤ t) : F_askThings [.int t] = .ex 0 := by
  by_cases h1 : 1 ≤ t
  · have h2 : ¬ t ≤ 12 := by omega
    simp [F_askThings, fnF, b_askThings, q_askThings_0, q_askThings_0a0, sSeq, sIf, fTB, fBin, rVar, lVar, sVar, fApp, fCons, fNil, Rs.bind, Rs.thenO, Rs.tb, Sl.d?, fS, fX, fC, sRet, sNext, sSet, fUn, tN, tAn, tOr', oLt, oLe, oGt, oGe, oLen, fAppR, flatS, scalD, sFor, fItems, oItems, fRng1, oRng1, fRng2, oRng2, sDrop, sRaise, sRetV, fIf, fLst, fTup, oSub, oNeg, oMax2, oMin2, oList, oIntB, noExC, sRetN, frz, sFrz, fMth, fListRg, oNone, oSome, fChain_eq, h1, h2]
  · simp [F_askThings, fnF, b_askThings, q_askThings_0, q_askThings_0a0, sSeq, sIf, fTB, fBin, rVar, lVar, sVar, fApp, fCons, fNil, Rs.bind, Rs.thenO, Rs.tb, Sl.d?, fS, fX, fC, sRet, sNext, sSet, fUn, tN, tAn, tOr', oLt, oLe, oGt, oGe, oLen, fAppR, flatS, scalD, sFor, fItems, oItems, fRng1, oRng1, fRng2, oRng2, sDrop, sRaise, sRetV, fIf, fLst, fTup, oSub, oNeg, oMax2, oMin2, oList, oIntB, noExC, sRetN, frz, sFrz, fMth, fListRg, oNone, oSome, fChain_eq, h1]
theorem many_ex {t : Int} (h : t ≤ 0 ∨ 13 ≤ t) : F_many [.int t] = .ex 0 := by
  have := askThings_ex h
  simp [F_many, fnF, b_many, q_many_0, sSeq, sIf, fTB, fBin, rVar, lVar, sVar, fApp, fCons, fNil, Rs.bind, Rs.thenO, Rs.tb, Sl.d?, fS, fX, fC, sRet, sNext, sSet, fUn, tN, tAn, tOr', oLt, oLe, oGt, oGe, oLen, fAppR, flatS, scalD, sFor, fItems, oItems, fRng1, oRng1, fRng2, oRng2, sDrop, sRaise, sRetV, fIf, fLst, fTup, oSub, oNeg, oMax2, oMin2, oList, oIntB, noExC, sRetN, frz, sFrz, fMth, fListRg, oNone, oSome, this]
theorem manyWith_ex {t : Int} (d : Int) (h : t ≤ 0 ∨ 13 ≤ t) : F_manyWith [.int t, .int d] = .ex 0 := by
  have := askThings_ex h
  simp [F_manyWith, fnF, b_manyWith, q_manyWith_0, sSeq, sIf, fTB, fBin, rVar, lVar, sVar, fApp, fCons, fNil, Rs.bind, Rs.thenO, Rs.tb, Sl.d?, fS, fX, fC, sRet, sNext, sSet, fUn, tN, tAn, tOr', oLt, oLe, oGt, oGe, oLen, fAppR, flatS, scalD, sFor, fItems, oItems, fRng1, oRng1, fRng2, oRng2, sDrop, sRaise, sRetV, fIf, fLst, fTup, oSub, oNeg, oMax2, oMin2, oList, oIntB, noExC, sRetN, frz, sFrz, fMth, fListRg, oNone, oSome, this]
theorem sharingAt_ex {t : Int} (d : Int) (h : t ≤ 0 ∨ 13 ≤ t) : F_sharingAt [.int t, .int d] = .ex 0 := by
  have := askThings_ex h
  simp [F_sharingAt, fnF, b_sharingAt, q_sharingAt_0, sSeq, sIf, fTB, fBin, rVar, lVar, sVar, fApp, fCons, fNil, Rs.bind, Rs.thenO, Rs.tb, Sl.d?, fS, fX, fC, sRet, sNext, sSet, fUn, tN, tAn, tOr', oLt, oLe, oGt, oGe, oLen, fAppR, flatS, scalD, sFor, fItems, oItems, fRng1, oRng1, fRng2, oRng2, sDrop, sRaise, sRetV, fIf, fLst, fTup, oSub, oNeg, oMax2, oMin2, oList, oIntB, noExC, sRetN, frz, sFrz, fMth, fListRg, oNone, oSome, this]
theorem sharingOf_ex {t : Int} (d : D) (h : t ≤ 0 ∨ 13 ≤ t) : F_sharingOf [.int t, d] = .ex 0 := by
  have := askThings_ex h
  simp [F_sharingOf, fnF, b_sharingOf, q_sharingOf_0, sSeq, sIf, fTB, fBin, rVar, lVar, sVar, fApp, fCons, fNil, Rs.bind, Rs.thenO, Rs.tb, Sl.d?, fS, fX, fC, sRet, sNext, sSet, fUn, tN, tAn, tOr', oLt, oLe, oGt, oGe, oLen, fAppR, flatS, scalD, sFor, fItems, oItems, fRng1, oRng1, fRng2, oRng2, sDrop, sRaise, sRetV, fIf, fLst, fTup, oSub, oNeg, oMax2, oMin2, oList, oIntB, noExC, sRetN, frz, sFrz, fMth, fListRg, oNone, oSome, this]
theorem wayBy_ex {t : Int} (d e f : D) (h : t ≤ 0 ∨ 13 ≤ t) : F_wayBy [.int t, d, e, f] = .ex 0 := by
  have := askThings_ex h
  simp [F_wayBy, fnF, b_wayBy, q_wayBy_0, sSeq, sIf, fTB, fBin, rVar, lVar, sVar, fApp, fCons, fNil, Rs.bind, Rs.thenO, Rs.tb, Sl.d?, fS, fX, fC, sRet, sNext, sSet, fUn, tN, tAn, tOr', oLt, oLe, oGt, oGe, oLen, fAppR, flatS, scalD, sFor, fItems, oItems, fRng1, oRng1, fRng2, oRng2, sDrop, sRaise, sRetV, fIf, fLst, fTup, oSub, oNeg, oMax2, oMin2, oList, oIntB, noExC, sRetN, frz, sFrz, fMth, fListRg, oNone, oSome, this]
theorem judged_ex {t : Int} (d e : D) (h : t ≤ 0 ∨ 13 ≤ t) : F_judged [.int t, d, e] = .ex 0 := by
  have := askThings_ex h
  simp [F_judged, fnF, b_judged, q_judged_0, sSeq, sIf, fTB, fBin, rVar, lVar, sVar, fApp, fCons, fNil, Rs.bind, Rs.thenO, Rs.tb, Sl.d?, fS, fX, fC, sRet, sNext, sSet, fUn, tN, tAn, tOr', oLt, oLe, oGt, oGe, oLen, fAppR, flatS, scalD, sFor, fItems, oItems, fRng1, oRng1, fRng2, oRng2, sDrop, sRaise, sRetV, fIf, fLst, fTup, oSub, oNeg, oMax2, oMin2, oList, oIntB, noExC, sRetN, frz, sFrz, fMth, fListRg, oNone, oSome, this]
theorem noThings_ex (cell far : Int) (hf : 0 ≤ far) : F_LnoThings [.int cell, .int far] = .ex 0 := by
  obtain ⟨m, hm, hm4⟩ := mod_nat cell 4 (by decide)
  obtain ⟨n, hn, hn6⟩ := mod_nat (cell / 4) 6 (by decide)
  have e1 := oMod_pos cell 4 (by decide)
  have e2 := oDiv_pos cell 4 (by decide) (by decide)
  have e3 := oMod_pos (cell / 4) 6 (by decide)
  rw [show ((4 : Int)) = ((4 : Nat) : Int) from rfl, hm] at e1
  rw [show ((6 : Int)) = ((6 : Nat) : Int) from rfl, hn] at e3
  obtain ⟨t, ht, hb⟩ : ∃ t : Int, oIdx (.list [.int 0, .int 13, .int (-far), .int (13 + far)]) (.int (m : Int)) = okI t ∧ (t ≤ 0 ∨ 13 ≤ t) := by
    match m, hm4 with
    | 0, _ => exact ⟨0, rfl, by omega⟩
    | 1, _ => exact ⟨13, rfl, by omega⟩
    | 2, _ => exact ⟨-far, rfl, by omega⟩
    | 3, _ => exact ⟨13 + far, rfl, by omega⟩
  have g0 : q_LnoThings_0 [.sh (.int cell), .sh (.int far), .un, .un] = .nx [.sh (.int cell), .sh (.int far), .sh (.int t), .un] := by
    refine (sSet_ok (r := .sh (.int t)) ?_).trans rfl
    rw [fBin_ok (x := .list [.int 0, .int 13, .int (-far), .int (13 + far)]) (y := .int (m : Int)) rfl]
    · exact ht
    · exact fS_ok (s := .sh (.int (m : Int))) (by rw [fBin_ok (x := .int cell) (y := .int 4) rfl rfl]; exact e1) rfl
  have g1 : q_LnoThings_1 [.sh (.int cell), .sh (.int far), .sh (.int t), .un] = .nx [.sh (.int cell), .sh (.int far), .sh (.int t), .sh (.int (n : Int))] := by
    refine (sSet_ok (r := .sh (.int (n : Int))) ?_).trans rfl
    rw [fBin_ok (x := .int (cell / 4)) (y := .int 6) (fS_ok (s := .sh (.int (cell / 4))) (by rw [fBin_ok (x := .int cell) (y := .int 4) rfl rfl]; exact e2) rfl) rfl]
    exact e3
  have g2 : q_LnoThings_2 [.sh (.int cell), .sh (.int far), .sh (.int t), .sh (.int (n : Int))] = .ex 0 [.sh (.int cell), .sh (.int far), .sh (.int t), .sh (.int (n : Int))] := by
    have x1 := many_ex hb
    have x2 := manyWith_ex (-1) hb
    have x3 := sharingAt_ex (-1) hb
    have x4 := fun d => sharingOf_ex d hb
    have x5 := fun d e f => wayBy_ex d e f hb
    have x6 := fun d e => judged_ex d e hb
    match n, hn6 with
    | 0, _ => simp [q_LnoThings_2, q_LnoThings_2a0, sSeq, sIf, fTB, fBin, rVar, lVar, sVar, fApp, fCons, fNil, Rs.bind, Rs.thenO, Rs.tb, Sl.d?, fS, fX, fC, sRet, sNext, sSet, fUn, tN, tAn, tOr', oLt, oLe, oGt, oGe, oLen, fAppR, flatS, scalD, sFor, fItems, oItems, fRng1, oRng1, fRng2, oRng2, sDrop, sRaise, sRetV, fIf, fLst, fTup, oSub, oNeg, oMax2, oMin2, oList, oIntB, noExC, sRetN, frz, sFrz, fMth, fListRg, oNone, oSome, x1]
    | 1, _ => simp [q_LnoThings_2, q_LnoThings_2b0, q_LnoThings_2b0a0, sSeq, sIf, fTB, fBin, rVar, lVar, sVar, fApp, fCons, fNil, Rs.bind, Rs.thenO, Rs.tb, Sl.d?, fS, fX, fC, sRet, sNext, sSet, fUn, tN, tAn, tOr', oLt, oLe, oGt, oGe, oLen, fAppR, flatS, scalD, sFor, fItems, oItems, fRng1, oRng1, fRng2, oRng2, sDrop, sRaise, sRetV, fIf, fLst, fTup, oSub, oNeg, oMax2, oMin2, oList, oIntB, noExC, sRetN, frz, sFrz, fMth, fListRg, oNone, oSome, x2]
    | 2, _ => simp [q_LnoThings_2, q_LnoThings_2b0, q_LnoThings_2b0b0, q_LnoThings_2b0b0a0, sSeq, sIf, fTB, fBin, rVar, lVar, sVar, fApp, fCons, fNil, Rs.bind, Rs.thenO, Rs.tb, Sl.d?, fS, fX, fC, sRet, sNext, sSet, fUn, tN, tAn, tOr', oLt, oLe, oGt, oGe, oLen, fAppR, flatS, scalD, sFor, fItems, oItems, fRng1, oRng1, fRng2, oRng2, sDrop, sRaise, sRetV, fIf, fLst, fTup, oSub, oNeg, oMax2, oMin2, oList, oIntB, noExC, sRetN, frz, sFrz, fMth, fListRg, oNone, oSome, x3]
    | 3, _ => simp [q_LnoThings_2, q_LnoThings_2b0, q_LnoThings_2b0b0, q_LnoThings_2b0b0b0, q_LnoThings_2b0b0b0a0, sSeq, sIf, fTB, fBin, rVar, lVar, sVar, fApp, fCons, fNil, Rs.bind, Rs.thenO, Rs.tb, Sl.d?, fS, fX, fC, sRet, sNext, sSet, fUn, tN, tAn, tOr', oLt, oLe, oGt, oGe, oLen, fAppR, flatS, scalD, sFor, fItems, oItems, fRng1, oRng1, fRng2, oRng2, sDrop, sRaise, sRetV, fIf, fLst, fTup, oSub, oNeg, oMax2, oMin2, oList, oIntB, noExC, sRetN, frz, sFrz, fMth, fListRg, oNone, oSome, LIM, x4]
    | 4, _ => simp [q_LnoThings_2, q_LnoThings_2b0, q_LnoThings_2b0b0, q_LnoThings_2b0b0b0, q_LnoThings_2b0b0b0b0, q_LnoThings_2b0b0b0b0a0, sSeq, sIf, fTB, fBin, rVar, lVar, sVar, fApp, fCons, fNil, Rs.bind, Rs.thenO, Rs.tb, Sl.d?, fS, fX, fC, sRet, sNext, sSet, fUn, tN, tAn, tOr', oLt, oLe, oGt, oGe, oLen, fAppR, flatS, scalD, sFor, fItems, oItems, fRng1, oRng1, fRng2, oRng2, sDrop, sRaise, sRetV, fIf, fLst, fTup, oSub, oNeg, oMax2, oMin2, oList, oIntB, noExC, sRetN, frz, sFrz, fMth, fListRg, oNone, oSome, LIM, x5]
    | 5, _ => simp [q_LnoThings_2, q_LnoThings_2b0, q_LnoThings_2b0b0, q_LnoThings_2b0b0b0, q_LnoThings_2b0b0b0b0, q_LnoThings_2b0b0b0b0b0, sSeq, sIf, fTB, fBin, rVar, lVar, sVar, fApp, fCons, fNil, Rs.bind, Rs.thenO, Rs.tb, Sl.d?, fS, fX, fC, sRet, sNext, sSet, fUn, tN, tAn, tOr', oLt, oLe, oGt, oGe, oLen, fAppR, flatS, scalD, sFor, fItems, oItems, fRng1, oRng1, fRng2, oRng2, sDrop, sRaise, sRetV, fIf, fLst, fTup, oSub, oNeg, oMax2, oMin2, oList, oIntB, noExC, sRetN, frz, sFrz, fMth, fListRg, oNone, oSome, LIM, x6]
  have e : List.map Sl.sh [PyData.int cell, PyData.int far] ++ List.replicate (4 - [PyData.int cell, PyData.int far].length) Sl.un = [.sh (.int cell), .sh (.int far), .un, .un] := rfl
  simp only [F_LnoThings, fnF, b_LnoThings, e]
  rw [sSeq_go g0, sSeq_go g1, g2]
  rfl
/-! ### of two -/
theorem ofTwo_both {x y : D} {c : Nat} (h : F_askBoth [x, y] = .ex c) (w : Nat) (hw : w < 6) : F_LofTwo [.int (w : Int), x, y] = .ex c := by
  have h2 : F_askFiner [x, y] = .ex c := by simp [F_askFiner, fnF, b_askFiner, q_askFiner_0, sSeq, sIf, fTB, fBin, rVar, lVar, sVar, fApp, fCons, fNil, Rs.bind, Rs.thenO, Rs.tb, Sl.d?, fS, fX, fC, sRet, sNext, sSet, fUn, tN, tAn, tOr', oLt, oLe, oGt, oGe, oLen, fAppR, flatS, scalD, sFor, fItems, oItems, fRng1, oRng1, fRng2, oRng2, sDrop, sRaise, sRetV, fIf, fLst, fTup, oSub, oNeg, oMax2, oMin2, oList, oIntB, noExC, sRetN, frz, sFrz, fMth, fListRg, oNone, oSome, h]
  have x1 : F_isFiner [x, y] = .ex c := by simp [F_isFiner, fnF, b_isFiner, q_isFiner_0, sSeq, sIf, fTB, fBin, rVar, lVar, sVar, fApp, fCons, fNil, Rs.bind, Rs.thenO, Rs.tb, Sl.d?, fS, fX, fC, sRet, sNext, sSet, fUn, tN, tAn, tOr', oLt, oLe, oGt, oGe, oLen, fAppR, flatS, scalD, sFor, fItems, oItems, fRng1, oRng1, fRng2, oRng2, sDrop, sRaise, sRetV, fIf, fLst, fTup, oSub, oNeg, oMax2, oMin2, oList, oIntB, noExC, sRetN, frz, sFrz, fMth, fListRg, oNone, oSome, h]
  have x2 : F_meeting [x, y] = .ex c := by simp [F_meeting, fnF, b_meeting, q_meeting_0, sSeq, sIf, fTB, fBin, rVar, lVar, sVar, fApp, fCons, fNil, Rs.bind, Rs.thenO, Rs.tb, Sl.d?, fS, fX, fC, sRet, sNext, sSet, fUn, tN, tAn, tOr', oLt, oLe, oGt, oGe, oLen, fAppR, flatS, scalD, sFor, fItems, oItems, fRng1, oRng1, fRng2, oRng2, sDrop, sRaise, sRetV, fIf, fLst, fTup, oSub, oNeg, oMax2, oMin2, oList, oIntB, noExC, sRetN, frz, sFrz, fMth, fListRg, oNone, oSome, h]
  have x3 : F_joining [x, y] = .ex c := by simp [F_joining, fnF, b_joining, q_joining_0, sSeq, sIf, fTB, fBin, rVar, lVar, sVar, fApp, fCons, fNil, Rs.bind, Rs.thenO, Rs.tb, Sl.d?, fS, fX, fC, sRet, sNext, sSet, fUn, tN, tAn, tOr', oLt, oLe, oGt, oGe, oLen, fAppR, flatS, scalD, sFor, fItems, oItems, fRng1, oRng1, fRng2, oRng2, sDrop, sRaise, sRetV, fIf, fLst, fTup, oSub, oNeg, oMax2, oMin2, oList, oIntB, noExC, sRetN, frz, sFrz, fMth, fListRg, oNone, oSome, h]
  have x4 : F_rise [x, y] = .ex c := by simp [F_rise, fnF, b_rise, q_rise_0, sSeq, sIf, fTB, fBin, rVar, lVar, sVar, fApp, fCons, fNil, Rs.bind, Rs.thenO, Rs.tb, Sl.d?, fS, fX, fC, sRet, sNext, sSet, fUn, tN, tAn, tOr', oLt, oLe, oGt, oGe, oLen, fAppR, flatS, scalD, sFor, fItems, oItems, fRng1, oRng1, fRng2, oRng2, sDrop, sRaise, sRetV, fIf, fLst, fTup, oSub, oNeg, oMax2, oMin2, oList, oIntB, noExC, sRetN, frz, sFrz, fMth, fListRg, oNone, oSome, h2]
  have x5 : F_manyRises [x, y] = .ex c := by simp [F_manyRises, fnF, b_manyRises, q_manyRises_0, sSeq, sIf, fTB, fBin, rVar, lVar, sVar, fApp, fCons, fNil, Rs.bind, Rs.thenO, Rs.tb, Sl.d?, fS, fX, fC, sRet, sNext, sSet, fUn, tN, tAn, tOr', oLt, oLe, oGt, oGe, oLen, fAppR, flatS, scalD, sFor, fItems, oItems, fRng1, oRng1, fRng2, oRng2, sDrop, sRaise, sRetV, fIf, fLst, fTup, oSub, oNeg, oMax2, oMin2, oList, oIntB, noExC, sRetN, frz, sFrz, fMth, fListRg, oNone, oSome, h2]
  have x6 : F_signed [x, y] = .ex c := by simp [F_signed, fnF, b_signed, q_signed_0, sSeq, sIf, fTB, fBin, rVar, lVar, sVar, fApp, fCons, fNil, Rs.bind, Rs.thenO, Rs.tb, Sl.d?, fS, fX, fC, sRet, sNext, sSet, fUn, tN, tAn, tOr', oLt, oLe, oGt, oGe, oLen, fAppR, flatS, scalD, sFor, fItems, oItems, fRng1, oRng1, fRng2, oRng2, sDrop, sRaise, sRetV, fIf, fLst, fTup, oSub, oNeg, oMax2, oMin2, oList, oIntB, noExC, sRetN, frz, sFrz, fMth, fListRg, oNone, oSome, h2]
  match w, hw with
  | 0, _ => simp [F_LofTwo, fnF, b_LofTwo, q_LofTwo_0, q_LofTwo_0a0, sSeq, sIf, fTB, fBin, rVar, lVar, sVar, fApp, fCons, fNil, Rs.bind, Rs.thenO, Rs.tb, Sl.d?, fS, fX, fC, sRet, sNext, sSet, fUn, tN, tAn, tOr', oLt, oLe, oGt, oGe, oLen, fAppR, flatS, scalD, sFor, fItems, oItems, fRng1, oRng1, fRng2, oRng2, sDrop, sRaise, sRetV, fIf, fLst, fTup, oSub, oNeg, oMax2, oMin2, oList, oIntB, noExC, sRetN, frz, sFrz, fMth, fListRg, oNone, oSome, x1]
  | 1, _ => simp [F_LofTwo, fnF, b_LofTwo, q_LofTwo_0, q_LofTwo_0b0, q_LofTwo_0b0a0, sSeq, sIf, fTB, fBin, rVar, lVar, sVar, fApp, fCons, fNil, Rs.bind, Rs.thenO, Rs.tb, Sl.d?, fS, fX, fC, sRet, sNext, sSet, fUn, tN, tAn, tOr', oLt, oLe, oGt, oGe, oLen, fAppR, flatS, scalD, sFor, fItems, oItems, fRng1, oRng1, fRng2, oRng2, sDrop, sRaise, sRetV, fIf, fLst, fTup, oSub, oNeg, oMax2, oMin2, oList, oIntB, noExC, sRetN, frz, sFrz, fMth, fListRg, oNone, oSome, x2]
  | 2, _ => simp [F_LofTwo, fnF, b_LofTwo, q_LofTwo_0, q_LofTwo_0b0, q_LofTwo_0b0b0, q_LofTwo_0b0b0a0, sSeq, sIf, fTB, fBin, rVar, lVar, sVar, fApp, fCons, fNil, Rs.bind, Rs.thenO, Rs.tb, Sl.d?, fS, fX, fC, sRet, sNext, sSet, fUn, tN, tAn, tOr', oLt, oLe, oGt, oGe, oLen, fAppR, flatS, scalD, sFor, fItems, oItems, fRng1, oRng1, fRng2, oRng2, sDrop, sRaise, sRetV, fIf, fLst, fTup, oSub, oNeg, oMax2, oMin2, oList, oIntB, noExC, sRetN, frz, sFrz, fMth, fListRg, oNone, oSome, x3]
  | 3, _ => simp [F_LofTwo, fnF, b_LofTwo, q_LofTwo_0, q_LofTwo_0b0, q_LofTwo_0b0b0, q_LofTwo_0b0b0b0, q_LofTwo_0b0b0b0a0, sSeq, sIf, fTB, fBin, rVar, lVar, sVar, fApp, fCons, fNil, Rs.bind, Rs.thenO, Rs.tb, Sl.d?, fS, fX, fC, sRet, sNext, sSet, fUn, tN, tAn, tOr', oLt, oLe, oGt, oGe, oLen, fAppR, flatS, scalD, sFor, fItems, oItems, fRng1, oRng1, fRng2, oRng2, sDrop, sRaise, sRetV, fIf, fLst, fTup, oSub, oNeg, oMax2, oMin2, oList, oIntB, noExC, sRetN, frz, sFrz, fMth, fListRg, oNone, oSome, x4]
  | 4, _ => simp [F_LofTwo, fnF, b_LofTwo, q_LofTwo_0, q_LofTwo_0b0, q_LofTwo_0b0b0, q_LofTwo_0b0b0b0, q_LofTwo_0b0b0b0b0, q_LofTwo_0b0b0b0b0a0, sSeq, sIf, fTB, fBin, rVar, lVar, sVar, fApp, fCons, fNil, Rs.bind, Rs.thenO, Rs.tb, Sl.d?, fS, fX, fC, sRet, sNext, sSet, fUn, tN, tAn, tOr', oLt, oLe, oGt, oGe, oLen, fAppR, flatS, scalD, sFor, fItems, oItems, fRng1, oRng1, fRng2, oRng2, sDrop, sRaise, sRetV, fIf, fLst, fTup, oSub, oNeg, oMax2, oMin2, oList, oIntB, noExC, sRetN, frz, sFrz, fMth, fListRg, oNone, oSome, x5]
  | 5, _ => simp [F_LofTwo, fnF, b_LofTwo, q_LofTwo_0, q_LofTwo_0b0, q_LofTwo_0b0b0, q_LofTwo_0b0b0b0, q_LofTwo_0b0b0b0b0, q_LofTwo_0b0b0b0b0b0, sSeq, sIf, fTB, fBin, rVar, lVar, sVar, fApp, fCons, fNil, Rs.bind, Rs.thenO, Rs.tb, Sl.d?, fS, fX, fC, sRet, sNext, sSet, fUn, tN, tAn, tOr', oLt, oLe, oGt, oGe, oLen, fAppR, flatS, scalD, sFor, fItems, oItems, fRng1, oRng1, fRng2, oRng2, sDrop, sRaise, sRetV, fIf, fLst, fTup, oSub, oNeg, oMax2, oMin2, oList, oIntB, noExC, sRetN, frz, sFrz, fMth, fListRg, oNone, oSome, x6]
theorem ofTwo_finer {x y : D} {c : Nat} (h2 : F_askFiner [x, y] = .ex c) (w : Nat) (h0 : 3 ≤ w) (hw : w < 6) : F_LofTwo [.int (w : Int), x, y] = .ex c := by
  have x4 : F_rise [x, y] = .ex c := by simp [F_rise, fnF, b_rise, q_rise_0, sSeq, sIf, fTB, fBin, rVar, lVar, sVar, fApp, fCons, fNil, Rs.bind, Rs.thenO, Rs.tb, Sl.d?, fS, fX, fC, sRet, sNext, sSet, fUn, tN, tAn, tOr', oLt, oLe, oGt, oGe, oLen, fAppR, flatS, scalD, sFor, fItems, oItems, fRng1, oRng1, fRng2, oRng2, sDrop, sRaise, sRetV, fIf, fLst, fTup, oSub, oNeg, oMax2, oMin2, oList, oIntB, noExC, sRetN, frz, sFrz, fMth, fListRg, oNone, oSome, h2]
  have x5 : F_manyRises [x, y] = .ex c := by simp [F_manyRises, fnF, b_manyRises, q_manyRises_0, sSeq, sIf, fTB, fBin, rVar, lVar, sVar, fApp, fCons, fNil, Rs.bind, Rs.thenO, Rs.tb, Sl.d?, fS, fX, fC, sRet, sNext, sSet, fUn, tN, tAn, tOr', oLt, oLe, oGt, oGe, oLen, fAppR, flatS, scalD, sFor, fItems, oItems, fRng1, oRng1, fRng2, oRng2, sDrop, sRaise, sRetV, fIf, fLst, fTup, oSub, oNeg, oMax2, oMin2, oList, oIntB, noExC, sRetN, frz, sFrz, fMth, fListRg, oNone, oSome, h2]
  have x6 : F_signed [x, y] = .ex c := by simp [F_signed, fnF, b_signed, q_signed_0, sSeq, sIf, fTB, fBin, rVar, lVar, sVar, fApp, fCons, fNil, Rs.bind, Rs.thenO, Rs.tb, Sl.d?, fS, fX, fC, sRet, sNext, sSet, fUn, tN, tAn, tOr', oLt, oLe, oGt, oGe, oLen, fAppR, flatS, scalD, sFor, fItems, oItems, fRng1, oRng1, fRng2, oRng2, sDrop, sRaise, sRetV, fIf, fLst, fTup, oSub, oNeg, oMax2, oMin2, oList, oIntB, noExC, sRetN, frz, sFrz, fMth, fListRg, oNone, oSome, h2]
  match w, h0, hw with
  | 3, _, _ => simp [F_LofTwo, fnF, b_LofTwo, q_LofTwo_0, q_LofTwo_0b0, q_LofTwo_0b0b0, q_LofTwo_0b0b0b0, q_LofTwo_0b0b0b0a0, sSeq, sIf, fTB, fBin, rVar, lVar, sVar, fApp, fCons, fNil, Rs.bind, Rs.thenO, Rs.tb, Sl.d?, fS, fX, fC, sRet, sNext, sSet, fUn, tN, tAn, tOr', oLt, oLe, oGt, oGe, oLen, fAppR, flatS, scalD, sFor, fItems, oItems, fRng1, oRng1, fRng2, oRng2, sDrop, sRaise, sRetV, fIf, fLst, fTup, oSub, oNeg, oMax2, oMin2, oList, oIntB, noExC, sRetN, frz, sFrz, fMth, fListRg, oNone, oSome, x4]
  | 4, _, _ => simp [F_LofTwo, fnF, b_LofTwo, q_LofTwo_0, q_LofTwo_0b0, q_LofTwo_0b0b0, q_LofTwo_0b0b0b0, q_LofTwo_0b0b0b0b0, q_LofTwo_0b0b0b0b0a0, sSeq, sIf, fTB, fBin, rVar, lVar, sVar, fApp, fCons, fNil, Rs.bind, Rs.thenO, Rs.tb, Sl.d?, fS, fX, fC, sRet, sNext, sSet, fUn, tN, tAn, tOr', oLt, oLe, oGt, oGe, oLen, fAppR, flatS, scalD, sFor, fItems, oItems, fRng1, oRng1, fRng2, oRng2, sDrop, sRaise, sRetV, fIf, fLst, fTup, oSub, oNeg, oMax2, oMin2, oList, oIntB, noExC, sRetN, frz, sFrz, fMth, fListRg, oNone, oSome, x5]
  | 5, _, _ => simp [F_LofTwo, fnF, b_LofTwo, q_LofTwo_0, q_LofTwo_0b0, q_LofTwo_0b0b0, q_LofTwo_0b0b0b0, q_LofTwo_0b0b0b0b0, q_LofTwo_0b0b0b0b0b0, sSeq, sIf, fTB, fBin, rVar, lVar, sVar, fApp, fCons, fNil, Rs.bind, Rs.thenO, Rs.tb, Sl.d?, fS, fX, fC, sRet, sNext, sSet, fUn, tN, tAn, tOr', oLt, oLe, oGt, oGe, oLen, fAppR, flatS, scalD, sFor, fItems, oItems, fRng1, oRng1, fRng2, oRng2, sDrop, sRaise, sRetV, fIf, fLst, fTup, oSub, oNeg, oMax2, oMin2, oList, oIntB, noExC, sRetN, frz, sFrz, fMth, fListRg, oNone, oSome, x6]
/-! ### no sharing -/
theorem ask_of {b : D} (h : F_isSharing [b] = okB false) : F_ask [b] = .ex 1 := by
  simp [F_ask, fnF, b_ask, q_ask_0, q_ask_0a0, sSeq, sIf, fTB, fBin, rVar, lVar, sVar, fApp, fCons, fNil, Rs.bind, Rs.thenO, Rs.tb, Sl.d?, fS, fX, fC, sRet, sNext, sSet, fUn, tN, tAn, tOr', oLt, oLe, oGt, oGe, oLen, fAppR, flatS, scalD, sFor, fItems, oItems, fRng1, oRng1, fRng2, oRng2, sDrop, sRaise, sRetV, fIf, fLst, fTup, oSub, oNeg, oMax2, oMin2, oList, oIntB, noExC, sRetN, frz, sFrz, fMth, fListRg, oNone, oSome, h]
theorem bad3 {far : Int} (hf : 0 ≤ far) : F_isSharing [.list [.int 0, .int (-1 - far)]] = okB false := by
  have h1 : ¬ far ≤ -1 := by omega
  simp [F_isSharing, fnF, b_isSharing, q_isSharing_0, q_isSharing_0a0, q_isSharing_1, q_isSharing_2, l_isSharing_2, q_isSharing_2a0, q_isSharing_2a0a0, q_isSharing_2a1, q_isSharing_2a1a0, q_isSharing_3, sSeq, sIf, fTB, fBin, rVar, lVar, sVar, fApp, fCons, fNil, Rs.bind, Rs.thenO, Rs.tb, Sl.d?, fS, fX, fC, sRet, sNext, sSet, fUn, tN, tAn, tOr', oLt, oLe, oGt, oGe, oLen, fAppR, flatS, scalD, sFor, fItems, oItems, fRng1, oRng1, fRng2, oRng2, sDrop, sRaise, sRetV, fIf, fLst, fTup, oSub, oNeg, oMax2, oMin2, oList, oIntB, noExC, sRetN, frz, sFrz, fMth, fListRg, oNone, oSome, fChain_eq, loopF, h1]
theorem bad4 {far : Int} (hf : 0 ≤ far) : F_isSharing [.list [.int 0, .int 1, .int (3 + far)]] = okB false := by
  have h1 : 0 ≤ 3 + far := by omega
  have h2 : ¬ 3 + far ≤ 2 := by omega
  simp [F_isSharing, fnF, b_isSharing, q_isSharing_0, q_isSharing_0a0, q_isSharing_1, q_isSharing_2, l_isSharing_2, q_isSharing_2a0, q_isSharing_2a0a0, q_isSharing_2a1, q_isSharing_2a1a0, q_isSharing_3, sSeq, sIf, fTB, fBin, rVar, lVar, sVar, fApp, fCons, fNil, Rs.bind, Rs.thenO, Rs.tb, Sl.d?, fS, fX, fC, sRet, sNext, sSet, fUn, tN, tAn, tOr', oLt, oLe, oGt, oGe, oLen, fAppR, flatS, scalD, sFor, fItems, oItems, fRng1, oRng1, fRng2, oRng2, sDrop, sRaise, sRetV, fIf, fLst, fTup, oSub, oNeg, oMax2, oMin2, oList, oIntB, noExC, sRetN, frz, sFrz, fMth, fListRg, oNone, oSome, fChain_eq, loopF, h1, h2]
def bads (far : Int) : List D := [.list [], .list [.int 1], .list [.int 0, .int 2], .list [.int 0, .int (-1 - far)], .list [.int 0, .int 1, .int (3 + far)], .list (List.replicate 13 (.int 0)), .list [.int 0, .int 0, .int 2, .int 1]]
theorem noSharing_ex (cell far : Int) (hf : 0 ≤ far) : F_LnoSharing [.int cell, .int far] = .ex 1 := by
  obtain ⟨m, hm, hm7⟩ := mod_nat cell 7 (by decide)
  obtain ⟨n, hn, hn18⟩ := mod_nat (cell / 7) 18 (by decide)
  have e1 := oMod_pos cell 7 (by decide)
  have e2 := oDiv_pos cell 7 (by decide) (by decide)
  have e3 := oMod_pos (cell / 7) 18 (by decide)
  rw [show ((7 : Int)) = ((7 : Nat) : Int) from rfl, hm] at e1
  rw [show ((18 : Int)) = ((18 : Nat) : Int) from rfl, hn] at e3
  obtain ⟨b, hb, ha⟩ : ∃ b : List D, oIdx (.list (bads far)) (.int (m : Int)) = .ok (.sh (.list b)) ∧ F_ask [.list b] = .ex 1 := by
    match m, hm7 with
    | 0, _ => exact ⟨_, rfl, by kernel_rfl⟩
    | 1, _ => exact ⟨_, rfl, by kernel_rfl⟩
    | 2, _ => exact ⟨_, rfl, by kernel_rfl⟩
    | 3, _ => exact ⟨_, rfl, ask_of (bad3 hf)⟩
    | 4, _ => exact ⟨_, rfl, ask_of (bad4 hf)⟩
    | 5, _ => exact ⟨_, rfl, by kernel_rfl⟩
    | 6, _ => exact ⟨_, rfl, by kernel_rfl⟩
  have g0 : q_LnoSharing_0 [.sh (.int cell), .sh (.int far), .un, .un, .un] = .nx [.sh (.int cell), .sh (.int far), .ow (bads far), .un, .un] := rfl
  have g1 : q_LnoSharing_1 [.sh (.int cell), .sh (.int far), .ow (bads far), .un, .un] = .nx [.sh (.int cell), .sh (.int far), .ow (bads far), .sh (.list b), .un] := by
    refine (sSet_ok (r := .sh (.list b)) ?_).trans rfl
    rw [fBin_ok (x := .list (bads far)) (y := .int (m : Int)) rfl]
    · exact hb
    · exact fS_ok (s := .sh (.int (m : Int))) (by rw [fBin_ok (x := .int cell) (y := .int 7) rfl rfl]; exact e1) rfl
  have g2 : q_LnoSharing_2 [.sh (.int cell), .sh (.int far), .ow (bads far), .sh (.list b), .un] = .nx [.sh (.int cell), .sh (.int far), .ow (bads far), .sh (.list b), .sh (.int (n : Int))] := by
    refine (sSet_ok (r := .sh (.int (n : Int))) ?_).trans rfl
    rw [fBin_ok (x := .int (cell / 7)) (y := .int 18) (fS_ok (s := .sh (.int (cell / 7))) (by rw [fBin_ok (x := .int cell) (y := .int 7) rfl rfl]; exact e2) rfl) rfl]
    exact e3
  have b1 : F_askBoth [.list b, .list [.int 0, .int 0]] = .ex 1 := by simp [F_askBoth, fnF, b_askBoth, q_askBoth_0, sSeq, sIf, fTB, fBin, rVar, lVar, sVar, fApp, fCons, fNil, Rs.bind, Rs.thenO, Rs.tb, Sl.d?, fS, fX, fC, sRet, sNext, sSet, fUn, tN, tAn, tOr', oLt, oLe, oGt, oGe, oLen, fAppR, flatS, scalD, sFor, fItems, oItems, fRng1, oRng1, fRng2, oRng2, sDrop, sRaise, sRetV, fIf, fLst, fTup, oSub, oNeg, oMax2, oMin2, oList, oIntB, noExC, sRetN, frz, sFrz, fMth, fListRg, oNone, oSome, ha]
  have ok1 : F_ask [.list [.int 0, .int 1]] = .ok (.sh .none) := by kernel_rfl
  have b2 : F_askBoth [.list [.int 0, .int 1], .list b] = .ex 1 := by simp [F_askBoth, fnF, b_askBoth, q_askBoth_0, q_askBoth_1, sSeq, sIf, fTB, fBin, rVar, lVar, sVar, fApp, fCons, fNil, Rs.bind, Rs.thenO, Rs.tb, Sl.d?, fS, fX, fC, sRet, sNext, sSet, fUn, tN, tAn, tOr', oLt, oLe, oGt, oGe, oLen, fAppR, flatS, scalD, sFor, fItems, oItems, fRng1, oRng1, fRng2, oRng2, sDrop, sRaise, sRetV, fIf, fLst, fTup, oSub, oNeg, oMax2, oMin2, oList, oIntB, noExC, sRetN, frz, sFrz, fMth, fListRg, oNone, oSome, ha, ok1]
  have x12 : F_sharesOf [.list b] = .ex 1 := by simp [F_sharesOf, fnF, b_sharesOf, q_sharesOf_0, sSeq, sIf, fTB, fBin, rVar, lVar, sVar, fApp, fCons, fNil, Rs.bind, Rs.thenO, Rs.tb, Sl.d?, fS, fX, fC, sRet, sNext, sSet, fUn, tN, tAn, tOr', oLt, oLe, oGt, oGe, oLen, fAppR, flatS, scalD, sFor, fItems, oItems, fRng1, oRng1, fRng2, oRng2, sDrop, sRaise, sRetV, fIf, fLst, fTup, oSub, oNeg, oMax2, oMin2, oList, oIntB, noExC, sRetN, frz, sFrz, fMth, fListRg, oNone, oSome, ha]
  have x13 : F_sizes [.list b] = .ex 1 := by simp [F_sizes, fnF, b_sizes, q_sizes_0, sSeq, sIf, fTB, fBin, rVar, lVar, sVar, fApp, fCons, fNil, Rs.bind, Rs.thenO, Rs.tb, Sl.d?, fS, fX, fC, sRet, sNext, sSet, fUn, tN, tAn, tOr', oLt, oLe, oGt, oGe, oLen, fAppR, flatS, scalD, sFor, fItems, oItems, fRng1, oRng1, fRng2, oRng2, sDrop, sRaise, sRetV, fIf, fLst, fTup, oSub, oNeg, oMax2, oMin2, oList, oIntB, noExC, sRetN, frz, sFrz, fMth, fListRg, oNone, oSome, ha]
  have x14 : F_numberOf [.list b] = .ex 1 := by simp [F_numberOf, fnF, b_numberOf, q_numberOf_0, sSeq, sIf, fTB, fBin, rVar, lVar, sVar, fApp, fCons, fNil, Rs.bind, Rs.thenO, Rs.tb, Sl.d?, fS, fX, fC, sRet, sNext, sSet, fUn, tN, tAn, tOr', oLt, oLe, oGt, oGe, oLen, fAppR, flatS, scalD, sFor, fItems, oItems, fRng1, oRng1, fRng2, oRng2, sDrop, sRaise, sRetV, fIf, fLst, fTup, oSub, oNeg, oMax2, oMin2, oList, oIntB, noExC, sRetN, frz, sFrz, fMth, fListRg, oNone, oSome, ha]
  have x15 : F_manyFiner [.list b] = .ex 1 := by simp [F_manyFiner, fnF, b_manyFiner, q_manyFiner_0, sSeq, sIf, fTB, fBin, rVar, lVar, sVar, fApp, fCons, fNil, Rs.bind, Rs.thenO, Rs.tb, Sl.d?, fS, fX, fC, sRet, sNext, sSet, fUn, tN, tAn, tOr', oLt, oLe, oGt, oGe, oLen, fAppR, flatS, scalD, sFor, fItems, oItems, fRng1, oRng1, fRng2, oRng2, sDrop, sRaise, sRetV, fIf, fLst, fTup, oSub, oNeg, oMax2, oMin2, oList, oIntB, noExC, sRetN, frz, sFrz, fMth, fListRg, oNone, oSome, ha]
  have x16 : F_manyCoarser [.list b] = .ex 1 := by simp [F_manyCoarser, fnF, b_manyCoarser, q_manyCoarser_0, sSeq, sIf, fTB, fBin, rVar, lVar, sVar, fApp, fCons, fNil, Rs.bind, Rs.thenO, Rs.tb, Sl.d?, fS, fX, fC, sRet, sNext, sSet, fUn, tN, tAn, tOr', oLt, oLe, oGt, oGe, oLen, fAppR, flatS, scalD, sFor, fItems, oItems, fRng1, oRng1, fRng2, oRng2, sDrop, sRaise, sRetV, fIf, fLst, fTup, oSub, oNeg, oMax2, oMin2, oList, oIntB, noExC, sRetN, frz, sFrz, fMth, fListRg, oNone, oSome, ha]
  have x17 : F_shown [.list b] = .ex 1 := by simp [F_shown, fnF, b_shown, q_shown_0, sSeq, sIf, fTB, fBin, rVar, lVar, sVar, fApp, fCons, fNil, Rs.bind, Rs.thenO, Rs.tb, Sl.d?, fS, fX, fC, sRet, sNext, sSet, fUn, tN, tAn, tOr', oLt, oLe, oGt, oGe, oLen, fAppR, flatS, scalD, sFor, fItems, oItems, fRng1, oRng1, fRng2, oRng2, sDrop, sRaise, sRetV, fIf, fLst, fTup, oSub, oNeg, oMax2, oMin2, oList, oIntB, noExC, sRetN, frz, sFrz, fMth, fListRg, oNone, oSome, ha]
  have g3 : q_LnoSharing_3 [.sh (.int cell), .sh (.int far), .ow (bads far), .sh (.list b), .sh (.int (n : Int))] = .ex 1 [.sh (.int cell), .sh (.int far), .ow (bads far), .sh (.list b), .sh (.int (n : Int))] := by
    by_cases h6 : n < 6
    · have := ofTwo_both b1 n h6
      have hi : (n : Int) < 6 := by omega
      simp [q_LnoSharing_3, q_LnoSharing_3a0, sSeq, sIf, fTB, fBin, rVar, lVar, sVar, fApp, fCons, fNil, Rs.bind, Rs.thenO, Rs.tb, Sl.d?, fS, fX, fC, sRet, sNext, sSet, fUn, tN, tAn, tOr', oLt, oLe, oGt, oGe, oLen, fAppR, flatS, scalD, sFor, fItems, oItems, fRng1, oRng1, fRng2, oRng2, sDrop, sRaise, sRetV, fIf, fLst, fTup, oSub, oNeg, oMax2, oMin2, oList, oIntB, noExC, sRetN, frz, sFrz, fMth, fListRg, oNone, oSome, LIM, hi, this]
    · by_cases h12 : n < 12
      · have := ofTwo_both b2 (n - 6) (by omega)
        rw [show ((n - 6 : Nat) : Int) = (n : Int) - 6 by omega] at this
        have hi : ¬ (n : Int) < 6 := by omega
        have hi2 : (n : Int) < 12 := by omega
        simp [q_LnoSharing_3, q_LnoSharing_3b0, q_LnoSharing_3b0a0, sSeq, sIf, fTB, fBin, rVar, lVar, sVar, fApp, fCons, fNil, Rs.bind, Rs.thenO, Rs.tb, Sl.d?, fS, fX, fC, sRet, sNext, sSet, fUn, tN, tAn, tOr', oLt, oLe, oGt, oGe, oLen, fAppR, flatS, scalD, sFor, fItems, oItems, fRng1, oRng1, fRng2, oRng2, sDrop, sRaise, sRetV, fIf, fLst, fTup, oSub, oNeg, oMax2, oMin2, oList, oIntB, noExC, sRetN, frz, sFrz, fMth, fListRg, oNone, oSome, LIM, hi, hi2, this]
      · obtain ⟨j, rfl⟩ : ∃ j, n = 12 + j := ⟨n - 12, by omega⟩
        have hj : j < 6 := by omega
        match j, hj with
        | 0, _ => simp [q_LnoSharing_3, q_LnoSharing_3b0, q_LnoSharing_3b0b0, q_LnoSharing_3b0b0a0, sSeq, sIf, fTB, fBin, rVar, lVar, sVar, fApp, fCons, fNil, Rs.bind, Rs.thenO, Rs.tb, Sl.d?, fS, fX, fC, sRet, sNext, sSet, fUn, tN, tAn, tOr', oLt, oLe, oGt, oGe, oLen, fAppR, flatS, scalD, sFor, fItems, oItems, fRng1, oRng1, fRng2, oRng2, sDrop, sRaise, sRetV, fIf, fLst, fTup, oSub, oNeg, oMax2, oMin2, oList, oIntB, noExC, sRetN, frz, sFrz, fMth, fListRg, oNone, oSome, x12]
        | 1, _ => simp [q_LnoSharing_3, q_LnoSharing_3b0, q_LnoSharing_3b0b0, q_LnoSharing_3b0b0b0, q_LnoSharing_3b0b0b0a0, sSeq, sIf, fTB, fBin, rVar, lVar, sVar, fApp, fCons, fNil, Rs.bind, Rs.thenO, Rs.tb, Sl.d?, fS, fX, fC, sRet, sNext, sSet, fUn, tN, tAn, tOr', oLt, oLe, oGt, oGe, oLen, fAppR, flatS, scalD, sFor, fItems, oItems, fRng1, oRng1, fRng2, oRng2, sDrop, sRaise, sRetV, fIf, fLst, fTup, oSub, oNeg, oMax2, oMin2, oList, oIntB, noExC, sRetN, frz, sFrz, fMth, fListRg, oNone, oSome, x13]
        | 2, _ => simp [q_LnoSharing_3, q_LnoSharing_3b0, q_LnoSharing_3b0b0, q_LnoSharing_3b0b0b0, q_LnoSharing_3b0b0b0b0, q_LnoSharing_3b0b0b0b0a0, sSeq, sIf, fTB, fBin, rVar, lVar, sVar, fApp, fCons, fNil, Rs.bind, Rs.thenO, Rs.tb, Sl.d?, fS, fX, fC, sRet, sNext, sSet, fUn, tN, tAn, tOr', oLt, oLe, oGt, oGe, oLen, fAppR, flatS, scalD, sFor, fItems, oItems, fRng1, oRng1, fRng2, oRng2, sDrop, sRaise, sRetV, fIf, fLst, fTup, oSub, oNeg, oMax2, oMin2, oList, oIntB, noExC, sRetN, frz, sFrz, fMth, fListRg, oNone, oSome, x14]
        | 3, _ => simp [q_LnoSharing_3, q_LnoSharing_3b0, q_LnoSharing_3b0b0, q_LnoSharing_3b0b0b0, q_LnoSharing_3b0b0b0b0, q_LnoSharing_3b0b0b0b0b0, q_LnoSharing_3b0b0b0b0b0a0, sSeq, sIf, fTB, fBin, rVar, lVar, sVar, fApp, fCons, fNil, Rs.bind, Rs.thenO, Rs.tb, Sl.d?, fS, fX, fC, sRet, sNext, sSet, fUn, tN, tAn, tOr', oLt, oLe, oGt, oGe, oLen, fAppR, flatS, scalD, sFor, fItems, oItems, fRng1, oRng1, fRng2, oRng2, sDrop, sRaise, sRetV, fIf, fLst, fTup, oSub, oNeg, oMax2, oMin2, oList, oIntB, noExC, sRetN, frz, sFrz, fMth, fListRg, oNone, oSome, x15]
        | 4, _ => simp [q_LnoSharing_3, q_LnoSharing_3b0, q_LnoSharing_3b0b0, q_LnoSharing_3b0b0b0, q_LnoSharing_3b0b0b0b0, q_LnoSharing_3b0b0b0b0b0, q_LnoSharing_3b0b0b0b0b0b0, q_LnoSharing_3b0b0b0b0b0b0a0, sSeq, sIf, fTB, fBin, rVar, lVar, sVar, fApp, fCons, fNil, Rs.bind, Rs.thenO, Rs.tb, Sl.d?, fS, fX, fC, sRet, sNext, sSet, fUn, tN, tAn, tOr', oLt, oLe, oGt, oGe, oLen, fAppR, flatS, scalD, sFor, fItems, oItems, fRng1, oRng1, fRng2, oRng2, sDrop, sRaise, sRetV, fIf, fLst, fTup, oSub, oNeg, oMax2, oMin2, oList, oIntB, noExC, sRetN, frz, sFrz, fMth, fListRg, oNone, oSome, x16]
        | 5, _ => simp [q_LnoSharing_3, q_LnoSharing_3b0, q_LnoSharing_3b0b0, q_LnoSharing_3b0b0b0, q_LnoSharing_3b0b0b0b0, q_LnoSharing_3b0b0b0b0b0, q_LnoSharing_3b0b0b0b0b0b0, q_LnoSharing_3b0b0b0b0b0b0b0, sSeq, sIf, fTB, fBin, rVar, lVar, sVar, fApp, fCons, fNil, Rs.bind, Rs.thenO, Rs.tb, Sl.d?, fS, fX, fC, sRet, sNext, sSet, fUn, tN, tAn, tOr', oLt, oLe, oGt, oGe, oLen, fAppR, flatS, scalD, sFor, fItems, oItems, fRng1, oRng1, fRng2, oRng2, sDrop, sRaise, sRetV, fIf, fLst, fTup, oSub, oNeg, oMax2, oMin2, oList, oIntB, noExC, sRetN, frz, sFrz, fMth, fListRg, oNone, oSome, x17]
  have e : List.map Sl.sh [PyData.int cell, PyData.int far] ++ List.replicate (5 - [PyData.int cell, PyData.int far].length) Sl.un = [.sh (.int cell), .sh (.int far), .un, .un, .un] := rfl
  simp only [F_LnoSharing, fnF, b_LnoSharing, e]
  rw [sSeq_go g0, sSeq_go g1, sSeq_go g2, g3]
  rfl
end Sh

namespace Sh
open PySem PySem.Spec PyProof.Rows L2
theorem sDrop_ex {f : Sg → Rs Sl} {S : Sg} {c : Nat} (h : f S = .ex c) : sDrop f S = .ex c S := by simp only [sDrop, h, Rs.thenO]
theorem fAppR1 {F : List D → Rs Sl} {fa : Sg → Rs D} {S : Sg} {x : D} {c : Nat} (ha : fa S = .ok x) (hF : F [x] = .ex c) : fAppR F (fCons fa fNil) S = .ex c := by simp only [fAppR, fCons, fNil, ha, Rs.bind, hF]
theorem fAppR2 {F : List D → Rs Sl} {fa fb : Sg → Rs D} {S : Sg} {x y : D} {c : Nat} (ha : fa S = .ok x) (hb : fb S = .ok y) (hF : F [x, y] = .ex c) : fAppR F (fCons fa (fCons fb fNil)) S = .ex c := by simp only [fAppR, fCons, fNil, ha, hb, Rs.bind, hF]
theorem fAppR3 {F : List D → Rs Sl} {fa fb fc : Sg → Rs D} {S : Sg} {x y z : D} {c : Nat} (ha : fa S = .ok x) (hb : fb S = .ok y) (hc : fc S = .ok z) (hF : F [x, y, z] = .ex c) : fAppR F (fCons fa (fCons fb (fCons fc fNil))) S = .ex c := by simp only [fAppR, fCons, fNil, ha, hb, hc, Rs.bind, hF]
theorem fAppR4 {F : List D → Rs Sl} {fa fb fc fd : Sg → Rs D} {S : Sg} {x y z w : D} {c : Nat} (ha : fa S = .ok x) (hb : fb S = .ok y) (hc : fc S = .ok z) (hd : fd S = .ok w) (hF : F [x, y, z, w] = .ex c) : fAppR F (fCons fa (fCons fb (fCons fc (fCons fd fNil)))) S = .ex c := by simp only [fAppR, fCons, fNil, ha, hb, hc, hd, Rs.bind, hF]
/-! ### no shares -/
def noShs (far : Int) : List D := [.list [], .list [.list []], .list [.list [.int 0], .list [.int 0]], .list [.list [.int 1]], .list [.list [.int 0, .int 2]], .list [.list [.int 0], .list [.int (1 + far + 1)]], .list [.list [.int 0], .list [], .list [.int 1]]]
theorem marksOf_far {far : Int} (hf : 0 ≤ far) : F_marksOf [.list [.list [.int 0], .list [.int (1 + far + 1)]]] = .ex 2 := by
  have h := (F_marksOf_all [[0], [1 + far + 1]] (by simp) (by simp)).1 (fun z => by
    have h3 := z.2.2
    have hm : (1 + far + 1) ∈ zs (List.range (([[0], [1 + far + 1]] : List (List Int)).flatten.length)) := h3.mem_iff.mp (by simp)
    have hm2 : (1 + far + 1) ∈ ([0, 1] : List Int) := hm
    simp at hm2
    omega)
  exact h
theorem noShares_ex (m : Nat) (hm : m < 7) {far : Int} (hf : 0 ≤ far) : ∃ d, oIdx (.list (noShs far)) (.int (m : Int)) = .ok (.sh d) ∧ F_marksOf [d] = .ex 2 := by
  match m, hm with
  | 0, _ => exact ⟨_, rfl, by kernel_rfl⟩
  | 1, _ => exact ⟨_, rfl, by kernel_rfl⟩
  | 2, _ => exact ⟨_, rfl, by kernel_rfl⟩
  | 3, _ => exact ⟨_, rfl, by kernel_rfl⟩
  | 4, _ => exact ⟨_, rfl, by kernel_rfl⟩
  | 5, _ => exact ⟨_, rfl, marksOf_far hf⟩
  | 6, _ => exact ⟨_, rfl, by kernel_rfl⟩
/-! ### no thing -/
def Off (b : Int) : Prop := ¬ (0 ≤ b ∧ b < 3)
def pr (a b : Int) : D := .tuple [.int a, .int b]
theorem pairs1 {b c : Int} (h : Off b ∨ Off c) : F_askPairs [.int 3, .list [pr b c]] = .ex 5 := by
  unfold Off at h
  by_cases h1 : 0 ≤ b
  · by_cases h2 : b < 3
    · have h3 : ¬ (0 ≤ c ∧ c < 3) := by rcases h with h | h; exact (h ⟨h1, h2⟩).elim; exact h
      by_cases h4 : 0 ≤ c
      · have h5 : ¬ c < 3 := fun z => h3 ⟨h4, z⟩
        simp [F_askPairs, fnF, b_askPairs, q_askPairs_0, q_askPairs_0a0, q_askPairs_0a0a0, q_askPairs_0a0a0a0, pr, sSeq, sIf, fTB, fBin, rVar, lVar, sVar, fApp, fCons, fNil, Rs.bind, Rs.thenO, Rs.tb, Sl.d?, fS, fX, fC, sRet, sNext, sSet, fUn, tN, tAn, tOr', oLt, oLe, oGt, oGe, oLen, fAppR, flatS, scalD, sFor, fItems, oItems, fRng1, oRng1, fRng2, oRng2, sDrop, sRaise, sRetV, fIf, fLst, fTup, oSub, oNeg, oMax2, oMin2, oList, oIntB, noExC, sRetN, frz, sFrz, fMth, fListRg, oNone, oSome, fChain_eq, loopF, h1, h2, h4, h5]
      · simp [F_askPairs, fnF, b_askPairs, q_askPairs_0, q_askPairs_0a0, q_askPairs_0a0a0, q_askPairs_0a0a0a0, pr, sSeq, sIf, fTB, fBin, rVar, lVar, sVar, fApp, fCons, fNil, Rs.bind, Rs.thenO, Rs.tb, Sl.d?, fS, fX, fC, sRet, sNext, sSet, fUn, tN, tAn, tOr', oLt, oLe, oGt, oGe, oLen, fAppR, flatS, scalD, sFor, fItems, oItems, fRng1, oRng1, fRng2, oRng2, sDrop, sRaise, sRetV, fIf, fLst, fTup, oSub, oNeg, oMax2, oMin2, oList, oIntB, noExC, sRetN, frz, sFrz, fMth, fListRg, oNone, oSome, fChain_eq, loopF, h1, h2, h4]
    · simp [F_askPairs, fnF, b_askPairs, q_askPairs_0, q_askPairs_0a0, q_askPairs_0a0a0, q_askPairs_0a0a0a0, pr, sSeq, sIf, fTB, fBin, rVar, lVar, sVar, fApp, fCons, fNil, Rs.bind, Rs.thenO, Rs.tb, Sl.d?, fS, fX, fC, sRet, sNext, sSet, fUn, tN, tAn, tOr', oLt, oLe, oGt, oGe, oLen, fAppR, flatS, scalD, sFor, fItems, oItems, fRng1, oRng1, fRng2, oRng2, sDrop, sRaise, sRetV, fIf, fLst, fTup, oSub, oNeg, oMax2, oMin2, oList, oIntB, noExC, sRetN, frz, sFrz, fMth, fListRg, oNone, oSome, fChain_eq, loopF, h1, h2]
  · simp [F_askPairs, fnF, b_askPairs, q_askPairs_0, q_askPairs_0a0, q_askPairs_0a0a0, q_askPairs_0a0a0a0, pr, sSeq, sIf, fTB, fBin, rVar, lVar, sVar, fApp, fCons, fNil, Rs.bind, Rs.thenO, Rs.tb, Sl.d?, fS, fX, fC, sRet, sNext, sSet, fUn, tN, tAn, tOr', oLt, oLe, oGt, oGe, oLen, fAppR, flatS, scalD, sFor, fItems, oItems, fRng1, oRng1, fRng2, oRng2, sDrop, sRaise, sRetV, fIf, fLst, fTup, oSub, oNeg, oMax2, oMin2, oList, oIntB, noExC, sRetN, frz, sFrz, fMth, fListRg, oNone, oSome, fChain_eq, loopF, h1]
theorem pairs2 {b c : Int} (h : Off b ∨ Off c) : F_askPairs [.int 3, .list [pr 0 1, pr b c]] = .ex 5 := by
  unfold Off at h
  by_cases h1 : 0 ≤ b
  · by_cases h2 : b < 3
    · have h3 : ¬ (0 ≤ c ∧ c < 3) := by rcases h with h | h; exact (h ⟨h1, h2⟩).elim; exact h
      by_cases h4 : 0 ≤ c
      · have h5 : ¬ c < 3 := fun z => h3 ⟨h4, z⟩
        simp [F_askPairs, fnF, b_askPairs, q_askPairs_0, q_askPairs_0a0, q_askPairs_0a0a0, q_askPairs_0a0a0a0, pr, sSeq, sIf, fTB, fBin, rVar, lVar, sVar, fApp, fCons, fNil, Rs.bind, Rs.thenO, Rs.tb, Sl.d?, fS, fX, fC, sRet, sNext, sSet, fUn, tN, tAn, tOr', oLt, oLe, oGt, oGe, oLen, fAppR, flatS, scalD, sFor, fItems, oItems, fRng1, oRng1, fRng2, oRng2, sDrop, sRaise, sRetV, fIf, fLst, fTup, oSub, oNeg, oMax2, oMin2, oList, oIntB, noExC, sRetN, frz, sFrz, fMth, fListRg, oNone, oSome, fChain_eq, loopF, h1, h2, h4, h5]
      · simp [F_askPairs, fnF, b_askPairs, q_askPairs_0, q_askPairs_0a0, q_askPairs_0a0a0, q_askPairs_0a0a0a0, pr, sSeq, sIf, fTB, fBin, rVar, lVar, sVar, fApp, fCons, fNil, Rs.bind, Rs.thenO, Rs.tb, Sl.d?, fS, fX, fC, sRet, sNext, sSet, fUn, tN, tAn, tOr', oLt, oLe, oGt, oGe, oLen, fAppR, flatS, scalD, sFor, fItems, oItems, fRng1, oRng1, fRng2, oRng2, sDrop, sRaise, sRetV, fIf, fLst, fTup, oSub, oNeg, oMax2, oMin2, oList, oIntB, noExC, sRetN, frz, sFrz, fMth, fListRg, oNone, oSome, fChain_eq, loopF, h1, h2, h4]
    · simp [F_askPairs, fnF, b_askPairs, q_askPairs_0, q_askPairs_0a0, q_askPairs_0a0a0, q_askPairs_0a0a0a0, pr, sSeq, sIf, fTB, fBin, rVar, lVar, sVar, fApp, fCons, fNil, Rs.bind, Rs.thenO, Rs.tb, Sl.d?, fS, fX, fC, sRet, sNext, sSet, fUn, tN, tAn, tOr', oLt, oLe, oGt, oGe, oLen, fAppR, flatS, scalD, sFor, fItems, oItems, fRng1, oRng1, fRng2, oRng2, sDrop, sRaise, sRetV, fIf, fLst, fTup, oSub, oNeg, oMax2, oMin2, oList, oIntB, noExC, sRetN, frz, sFrz, fMth, fListRg, oNone, oSome, fChain_eq, loopF, h1, h2]
  · simp [F_askPairs, fnF, b_askPairs, q_askPairs_0, q_askPairs_0a0, q_askPairs_0a0a0, q_askPairs_0a0a0a0, pr, sSeq, sIf, fTB, fBin, rVar, lVar, sVar, fApp, fCons, fNil, Rs.bind, Rs.thenO, Rs.tb, Sl.d?, fS, fX, fC, sRet, sNext, sSet, fUn, tN, tAn, tOr', oLt, oLe, oGt, oGe, oLen, fAppR, flatS, scalD, sFor, fItems, oItems, fRng1, oRng1, fRng2, oRng2, sDrop, sRaise, sRetV, fIf, fLst, fTup, oSub, oNeg, oMax2, oMin2, oList, oIntB, noExC, sRetN, frz, sFrz, fMth, fListRg, oNone, oSome, fChain_eq, loopF, h1]
theorem pairs3 {b c : Int} (h : Off b ∨ Off c) : F_askPairs [.int 3, .list [pr b c, pr 0 1]] = .ex 5 := by
  unfold Off at h
  by_cases h1 : 0 ≤ b
  · by_cases h2 : b < 3
    · have h3 : ¬ (0 ≤ c ∧ c < 3) := by rcases h with h | h; exact (h ⟨h1, h2⟩).elim; exact h
      by_cases h4 : 0 ≤ c
      · have h5 : ¬ c < 3 := fun z => h3 ⟨h4, z⟩
        simp [F_askPairs, fnF, b_askPairs, q_askPairs_0, q_askPairs_0a0, q_askPairs_0a0a0, q_askPairs_0a0a0a0, pr, sSeq, sIf, fTB, fBin, rVar, lVar, sVar, fApp, fCons, fNil, Rs.bind, Rs.thenO, Rs.tb, Sl.d?, fS, fX, fC, sRet, sNext, sSet, fUn, tN, tAn, tOr', oLt, oLe, oGt, oGe, oLen, fAppR, flatS, scalD, sFor, fItems, oItems, fRng1, oRng1, fRng2, oRng2, sDrop, sRaise, sRetV, fIf, fLst, fTup, oSub, oNeg, oMax2, oMin2, oList, oIntB, noExC, sRetN, frz, sFrz, fMth, fListRg, oNone, oSome, fChain_eq, loopF, h1, h2, h4, h5]
      · simp [F_askPairs, fnF, b_askPairs, q_askPairs_0, q_askPairs_0a0, q_askPairs_0a0a0, q_askPairs_0a0a0a0, pr, sSeq, sIf, fTB, fBin, rVar, lVar, sVar, fApp, fCons, fNil, Rs.bind, Rs.thenO, Rs.tb, Sl.d?, fS, fX, fC, sRet, sNext, sSet, fUn, tN, tAn, tOr', oLt, oLe, oGt, oGe, oLen, fAppR, flatS, scalD, sFor, fItems, oItems, fRng1, oRng1, fRng2, oRng2, sDrop, sRaise, sRetV, fIf, fLst, fTup, oSub, oNeg, oMax2, oMin2, oList, oIntB, noExC, sRetN, frz, sFrz, fMth, fListRg, oNone, oSome, fChain_eq, loopF, h1, h2, h4]
    · simp [F_askPairs, fnF, b_askPairs, q_askPairs_0, q_askPairs_0a0, q_askPairs_0a0a0, q_askPairs_0a0a0a0, pr, sSeq, sIf, fTB, fBin, rVar, lVar, sVar, fApp, fCons, fNil, Rs.bind, Rs.thenO, Rs.tb, Sl.d?, fS, fX, fC, sRet, sNext, sSet, fUn, tN, tAn, tOr', oLt, oLe, oGt, oGe, oLen, fAppR, flatS, scalD, sFor, fItems, oItems, fRng1, oRng1, fRng2, oRng2, sDrop, sRaise, sRetV, fIf, fLst, fTup, oSub, oNeg, oMax2, oMin2, oList, oIntB, noExC, sRetN, frz, sFrz, fMth, fListRg, oNone, oSome, fChain_eq, loopF, h1, h2]
  · simp [F_askPairs, fnF, b_askPairs, q_askPairs_0, q_askPairs_0a0, q_askPairs_0a0a0, q_askPairs_0a0a0a0, pr, sSeq, sIf, fTB, fBin, rVar, lVar, sVar, fApp, fCons, fNil, Rs.bind, Rs.thenO, Rs.tb, Sl.d?, fS, fX, fC, sRet, sNext, sSet, fUn, tN, tAn, tOr', oLt, oLe, oGt, oGe, oLen, fAppR, flatS, scalD, sFor, fItems, oItems, fRng1, oRng1, fRng2, oRng2, sDrop, sRaise, sRetV, fIf, fLst, fTup, oSub, oNeg, oMax2, oMin2, oList, oIntB, noExC, sRetN, frz, sFrz, fMth, fListRg, oNone, oSome, fChain_eq, loopF, h1]
theorem things3 : F_askThings [.int 3] = .ok (.sh .none) := by kernel_rfl
theorem pairs01 : F_askPairs [.int 3, .list [pr 0 1]] = .ok (.sh .none) := by kernel_rfl
theorem pairs00 : F_askPairs [.int 3, .list []] = .ok (.sh .none) := by kernel_rfl
theorem noThing_ex (cell far : Int) (hf : 0 ≤ far) : F_LnoThing [.int cell, .int far] = .ex 5 := by
  obtain ⟨m, hm, hm4⟩ := mod_nat cell 4 (by decide)
  obtain ⟨u, hu, hu2⟩ := mod_nat (cell / 4) 2 (by decide)
  obtain ⟨n, hn, hn6⟩ := mod_nat (cell / 8) 6 (by decide)
  have e1 := oMod_pos cell 4 (by decide)
  have e2 := oDiv_pos cell 4 (by decide) (by decide)
  have e3 := oMod_pos (cell / 4) 2 (by decide)
  have e4 := oDiv_pos cell 8 (by decide) (by decide)
  have e5 := oMod_pos (cell / 8) 6 (by decide)
  rw [show ((4 : Int)) = ((4 : Nat) : Int) from rfl, hm] at e1
  rw [show ((2 : Int)) = ((2 : Nat) : Int) from rfl] at e3
  rw [hu] at e3
  rw [show ((6 : Int)) = ((6 : Nat) : Int) from rfl, hn] at e5
  obtain ⟨t, ht, hb⟩ : ∃ t : Int, oIdx (.list [.int 3, .int (-1), .int (3 + far), .int (-1 - far)]) (.int (m : Int)) = okI t ∧ Off t := by
    unfold Off
    match m, hm4 with
    | 0, _ => exact ⟨3, rfl, by omega⟩
    | 1, _ => exact ⟨-1, rfl, by omega⟩
    | 2, _ => exact ⟨3 + far, rfl, by omega⟩
    | 3, _ => exact ⟨-1 - far, rfl, by omega⟩
  obtain ⟨b, c, hp, hbc⟩ : ∃ b c : Int, oIdx (.list [pr t 0, pr 1 t]) (.int (u : Int)) = .ok (.sh (pr b c)) ∧ (Off b ∨ Off c) := by
    match u, hu2 with
    | 0, _ => exact ⟨t, 0, rfl, .inl hb⟩
    | 1, _ => exact ⟨1, t, rfl, .inr hb⟩
  have g0 : q_LnoThing_0 [.sh (.int cell), .sh (.int far), .un, .un, .un] = .nx [.sh (.int cell), .sh (.int far), .sh (.int t), .un, .un] := by
    refine (sSet_ok (r := .sh (.int t)) ?_).trans rfl
    rw [fBin_ok (x := .list [.int 3, .int (-1), .int (3 + far), .int (-1 - far)]) (y := .int (m : Int)) rfl]
    · exact ht
    · exact fS_ok (s := .sh (.int (m : Int))) (by rw [fBin_ok (x := .int cell) (y := .int 4) rfl rfl]; exact e1) rfl
  have g1 : q_LnoThing_1 [.sh (.int cell), .sh (.int far), .sh (.int t), .un, .un] = .nx [.sh (.int cell), .sh (.int far), .sh (.int t), .sh (pr b c), .un] := by
    refine (sSet_ok (r := .sh (pr b c)) ?_).trans rfl
    rw [fBin_ok (x := .list [pr t 0, pr 1 t]) (y := .int (u : Int)) rfl]
    · exact hp
    · refine fS_ok (s := .sh (.int (u : Int))) ?_ rfl
      rw [fBin_ok (x := .int (cell / 4)) (y := .int 2) (fS_ok (s := .sh (.int (cell / 4))) (by rw [fBin_ok (x := .int cell) (y := .int 4) rfl rfl]; exact e2) rfl) rfl]
      exact e3
  have g2 : q_LnoThing_2 [.sh (.int cell), .sh (.int far), .sh (.int t), .sh (pr b c), .un] = .nx [.sh (.int cell), .sh (.int far), .sh (.int t), .sh (pr b c), .sh (.int (n : Int))] := by
    refine (sSet_ok (r := .sh (.int (n : Int))) ?_).trans rfl
    rw [fBin_ok (x := .int (cell / 8)) (y := .int 6) (fS_ok (s := .sh (.int (cell / 8))) (by rw [fBin_ok (x := .int cell) (y := .int 8) rfl rfl]; exact e4) rfl) rfl]
    exact e5
  have p1 : F_sharingOf [.int 3, .list [pr 0 1, pr b c]] = .ex 5 := by
    simp [F_sharingOf, fnF, b_sharingOf, q_sharingOf_0, q_sharingOf_1, sSeq, sIf, fTB, fBin, rVar, lVar, sVar, fApp, fCons, fNil, Rs.bind, Rs.thenO, Rs.tb, Sl.d?, fS, fX, fC, sRet, sNext, sSet, fUn, tN, tAn, tOr', oLt, oLe, oGt, oGe, oLen, fAppR, flatS, scalD, sFor, fItems, oItems, fRng1, oRng1, fRng2, oRng2, sDrop, sRaise, sRetV, fIf, fLst, fTup, oSub, oNeg, oMax2, oMin2, oList, oIntB, noExC, sRetN, frz, sFrz, fMth, fListRg, oNone, oSome, things3, pairs2 hbc]
  have p2 : F_wayBy [.int 3, .list [pr b c, pr 0 1], .int 0, .int 2] = .ex 5 := by
    simp [F_wayBy, fnF, b_wayBy, q_wayBy_0, q_wayBy_1, sSeq, sIf, fTB, fBin, rVar, lVar, sVar, fApp, fCons, fNil, Rs.bind, Rs.thenO, Rs.tb, Sl.d?, fS, fX, fC, sRet, sNext, sSet, fUn, tN, tAn, tOr', oLt, oLe, oGt, oGe, oLen, fAppR, flatS, scalD, sFor, fItems, oItems, fRng1, oRng1, fRng2, oRng2, sDrop, sRaise, sRetV, fIf, fLst, fTup, oSub, oNeg, oMax2, oMin2, oList, oIntB, noExC, sRetN, frz, sFrz, fMth, fListRg, oNone, oSome, things3, pairs3 hbc]
  have p3 : F_wayBy [.int 3, .list [pr 0 1], .int t, .int 0] = .ex 5 := by
    have := pairs1 (b := t) (c := 0) (.inl hb)
    unfold pr at this
    simp [F_wayBy, fnF, b_wayBy, q_wayBy_0, q_wayBy_1, q_wayBy_2, sSeq, sIf, fTB, fBin, rVar, lVar, sVar, fApp, fCons, fNil, Rs.bind, Rs.thenO, Rs.tb, Sl.d?, fS, fX, fC, sRet, sNext, sSet, fUn, tN, tAn, tOr', oLt, oLe, oGt, oGe, oLen, fAppR, flatS, scalD, sFor, fItems, oItems, fRng1, oRng1, fRng2, oRng2, sDrop, sRaise, sRetV, fIf, fLst, fTup, oSub, oNeg, oMax2, oMin2, oList, oIntB, noExC, sRetN, frz, sFrz, fMth, fListRg, oNone, oSome, LIM, things3, pairs01, this]
  have p4 : F_wayBy [.int 3, .list [], .int 0, .int t] = .ex 5 := by
    have := pairs1 (b := 0) (c := t) (.inr hb)
    unfold pr at this
    simp [F_wayBy, fnF, b_wayBy, q_wayBy_0, q_wayBy_1, q_wayBy_2, sSeq, sIf, fTB, fBin, rVar, lVar, sVar, fApp, fCons, fNil, Rs.bind, Rs.thenO, Rs.tb, Sl.d?, fS, fX, fC, sRet, sNext, sSet, fUn, tN, tAn, tOr', oLt, oLe, oGt, oGe, oLen, fAppR, flatS, scalD, sFor, fItems, oItems, fRng1, oRng1, fRng2, oRng2, sDrop, sRaise, sRetV, fIf, fLst, fTup, oSub, oNeg, oMax2, oMin2, oList, oIntB, noExC, sRetN, frz, sFrz, fMth, fListRg, oNone, oSome, LIM, things3, pairs00, this]
  have p5 : F_judged [.int 3, .list [pr 0 1, pr b c], .list [pr 0 1]] = .ex 5 := by
    simp [F_judged, fnF, b_judged, q_judged_0, q_judged_1, sSeq, sIf, fTB, fBin, rVar, lVar, sVar, fApp, fCons, fNil, Rs.bind, Rs.thenO, Rs.tb, Sl.d?, fS, fX, fC, sRet, sNext, sSet, fUn, tN, tAn, tOr', oLt, oLe, oGt, oGe, oLen, fAppR, flatS, scalD, sFor, fItems, oItems, fRng1, oRng1, fRng2, oRng2, sDrop, sRaise, sRetV, fIf, fLst, fTup, oSub, oNeg, oMax2, oMin2, oList, oIntB, noExC, sRetN, frz, sFrz, fMth, fListRg, oNone, oSome, things3, pairs2 hbc]
  have p6 : F_judged [.int 3, .list [pr 0 1], .list [pr 0 1, pr b c]] = .ex 5 := by
    simp [F_judged, fnF, b_judged, q_judged_0, q_judged_1, q_judged_2, sSeq, sIf, fTB, fBin, rVar, lVar, sVar, fApp, fCons, fNil, Rs.bind, Rs.thenO, Rs.tb, Sl.d?, fS, fX, fC, sRet, sNext, sSet, fUn, tN, tAn, tOr', oLt, oLe, oGt, oGe, oLen, fAppR, flatS, scalD, sFor, fItems, oItems, fRng1, oRng1, fRng2, oRng2, sDrop, sRaise, sRetV, fIf, fLst, fTup, oSub, oNeg, oMax2, oMin2, oList, oIntB, noExC, sRetN, frz, sFrz, fMth, fListRg, oNone, oSome, things3, pairs01, pairs2 hbc]
  have g3 : q_LnoThing_3 [.sh (.int cell), .sh (.int far), .sh (.int t), .sh (pr b c), .sh (.int (n : Int))] = .ex 5 [.sh (.int cell), .sh (.int far), .sh (.int t), .sh (pr b c), .sh (.int (n : Int))] := by
    unfold pr at p1 p2 p3 p4 p5 p6 ⊢
    match n, hn6 with
    | 0, _ => simp [q_LnoThing_3, q_LnoThing_3a0, sSeq, sIf, fTB, fBin, rVar, lVar, sVar, fApp, fCons, fNil, Rs.bind, Rs.thenO, Rs.tb, Sl.d?, fS, fX, fC, sRet, sNext, sSet, fUn, tN, tAn, tOr', oLt, oLe, oGt, oGe, oLen, fAppR, flatS, scalD, sFor, fItems, oItems, fRng1, oRng1, fRng2, oRng2, sDrop, sRaise, sRetV, fIf, fLst, fTup, oSub, oNeg, oMax2, oMin2, oList, oIntB, noExC, sRetN, frz, sFrz, fMth, fListRg, oNone, oSome, LIM, p1]
    | 1, _ => simp [q_LnoThing_3, q_LnoThing_3b0, q_LnoThing_3b0a0, sSeq, sIf, fTB, fBin, rVar, lVar, sVar, fApp, fCons, fNil, Rs.bind, Rs.thenO, Rs.tb, Sl.d?, fS, fX, fC, sRet, sNext, sSet, fUn, tN, tAn, tOr', oLt, oLe, oGt, oGe, oLen, fAppR, flatS, scalD, sFor, fItems, oItems, fRng1, oRng1, fRng2, oRng2, sDrop, sRaise, sRetV, fIf, fLst, fTup, oSub, oNeg, oMax2, oMin2, oList, oIntB, noExC, sRetN, frz, sFrz, fMth, fListRg, oNone, oSome, LIM, p2]
    | 2, _ => simp [q_LnoThing_3, q_LnoThing_3b0, q_LnoThing_3b0b0, q_LnoThing_3b0b0a0, sSeq, sIf, fTB, fBin, rVar, lVar, sVar, fApp, fCons, fNil, Rs.bind, Rs.thenO, Rs.tb, Sl.d?, fS, fX, fC, sRet, sNext, sSet, fUn, tN, tAn, tOr', oLt, oLe, oGt, oGe, oLen, fAppR, flatS, scalD, sFor, fItems, oItems, fRng1, oRng1, fRng2, oRng2, sDrop, sRaise, sRetV, fIf, fLst, fTup, oSub, oNeg, oMax2, oMin2, oList, oIntB, noExC, sRetN, frz, sFrz, fMth, fListRg, oNone, oSome, LIM, p3]
    | 3, _ => simp [q_LnoThing_3, q_LnoThing_3b0, q_LnoThing_3b0b0, q_LnoThing_3b0b0b0, q_LnoThing_3b0b0b0a0, sSeq, sIf, fTB, fBin, rVar, lVar, sVar, fApp, fCons, fNil, Rs.bind, Rs.thenO, Rs.tb, Sl.d?, fS, fX, fC, sRet, sNext, sSet, fUn, tN, tAn, tOr', oLt, oLe, oGt, oGe, oLen, fAppR, flatS, scalD, sFor, fItems, oItems, fRng1, oRng1, fRng2, oRng2, sDrop, sRaise, sRetV, fIf, fLst, fTup, oSub, oNeg, oMax2, oMin2, oList, oIntB, noExC, sRetN, frz, sFrz, fMth, fListRg, oNone, oSome, LIM, p4]
    | 4, _ => simp [q_LnoThing_3, q_LnoThing_3b0, q_LnoThing_3b0b0, q_LnoThing_3b0b0b0, q_LnoThing_3b0b0b0b0, q_LnoThing_3b0b0b0b0a0, sSeq, sIf, fTB, fBin, rVar, lVar, sVar, fApp, fCons, fNil, Rs.bind, Rs.thenO, Rs.tb, Sl.d?, fS, fX, fC, sRet, sNext, sSet, fUn, tN, tAn, tOr', oLt, oLe, oGt, oGe, oLen, fAppR, flatS, scalD, sFor, fItems, oItems, fRng1, oRng1, fRng2, oRng2, sDrop, sRaise, sRetV, fIf, fLst, fTup, oSub, oNeg, oMax2, oMin2, oList, oIntB, noExC, sRetN, frz, sFrz, fMth, fListRg, oNone, oSome, LIM, p5]
    | 5, _ => simp [q_LnoThing_3, q_LnoThing_3b0, q_LnoThing_3b0b0, q_LnoThing_3b0b0b0, q_LnoThing_3b0b0b0b0, q_LnoThing_3b0b0b0b0b0, sSeq, sIf, fTB, fBin, rVar, lVar, sVar, fApp, fCons, fNil, Rs.bind, Rs.thenO, Rs.tb, Sl.d?, fS, fX, fC, sRet, sNext, sSet, fUn, tN, tAn, tOr', oLt, oLe, oGt, oGe, oLen, fAppR, flatS, scalD, sFor, fItems, oItems, fRng1, oRng1, fRng2, oRng2, sDrop, sRaise, sRetV, fIf, fLst, fTup, oSub, oNeg, oMax2, oMin2, oList, oIntB, noExC, sRetN, frz, sFrz, fMth, fListRg, oNone, oSome, LIM, p6]
  have e : List.map Sl.sh [PyData.int cell, PyData.int far] ++ List.replicate (5 - [PyData.int cell, PyData.int far].length) Sl.un = [.sh (.int cell), .sh (.int far), .un, .un, .un] := rfl
  simp only [F_LnoThing, fnF, b_LnoThing, e]
  rw [sSeq_go g0, sSeq_go g1, sSeq_go g2, g3]
  rfl
/-! ### no number -/
theorem manyWith3 {s : Int} (h : s < 0 ∨ 12 < s) : F_manyWith [.int 3, .int s] = .ex 6 := by
  by_cases h1 : 0 ≤ s
  · have h2 : ¬ s ≤ 12 := by omega
    simp [F_manyWith, fnF, b_manyWith, q_manyWith_0, q_manyWith_1, q_manyWith_1a0, sSeq, sIf, fTB, fBin, rVar, lVar, sVar, fApp, fCons, fNil, Rs.bind, Rs.thenO, Rs.tb, Sl.d?, fS, fX, fC, sRet, sNext, sSet, fUn, tN, tAn, tOr', oLt, oLe, oGt, oGe, oLen, fAppR, flatS, scalD, sFor, fItems, oItems, fRng1, oRng1, fRng2, oRng2, sDrop, sRaise, sRetV, fIf, fLst, fTup, oSub, oNeg, oMax2, oMin2, oList, oIntB, noExC, sRetN, frz, sFrz, fMth, fListRg, oNone, oSome, fChain_eq, things3, h1, h2]
  · simp [F_manyWith, fnF, b_manyWith, q_manyWith_0, q_manyWith_1, q_manyWith_1a0, sSeq, sIf, fTB, fBin, rVar, lVar, sVar, fApp, fCons, fNil, Rs.bind, Rs.thenO, Rs.tb, Sl.d?, fS, fX, fC, sRet, sNext, sSet, fUn, tN, tAn, tOr', oLt, oLe, oGt, oGe, oLen, fAppR, flatS, scalD, sFor, fItems, oItems, fRng1, oRng1, fRng2, oRng2, sDrop, sRaise, sRetV, fIf, fLst, fTup, oSub, oNeg, oMax2, oMin2, oList, oIntB, noExC, sRetN, frz, sFrz, fMth, fListRg, oNone, oSome, fChain_eq, things3, h1]
theorem many3 : F_many [.int 3] = okI 5 := by kernel_rfl
theorem sharingAt3 {s : Int} (h : s < 0 ∨ 4 < s) : F_sharingAt [.int 3, .int s] = .ex 6 := by
  by_cases h1 : 0 ≤ s
  · have h2 : ¬ s < 5 := by omega
    simp [F_sharingAt, fnF, b_sharingAt, q_sharingAt_0, q_sharingAt_1, q_sharingAt_1a0, sSeq, sIf, fTB, fBin, rVar, lVar, sVar, fApp, fCons, fNil, Rs.bind, Rs.thenO, Rs.tb, Sl.d?, fS, fX, fC, sRet, sNext, sSet, fUn, tN, tAn, tOr', oLt, oLe, oGt, oGe, oLen, fAppR, flatS, scalD, sFor, fItems, oItems, fRng1, oRng1, fRng2, oRng2, sDrop, sRaise, sRetV, fIf, fLst, fTup, oSub, oNeg, oMax2, oMin2, oList, oIntB, noExC, sRetN, frz, sFrz, fMth, fListRg, oNone, oSome, fChain_eq, things3, many3, h1, h2]
  · simp [F_sharingAt, fnF, b_sharingAt, q_sharingAt_0, q_sharingAt_1, q_sharingAt_1a0, sSeq, sIf, fTB, fBin, rVar, lVar, sVar, fApp, fCons, fNil, Rs.bind, Rs.thenO, Rs.tb, Sl.d?, fS, fX, fC, sRet, sNext, sSet, fUn, tN, tAn, tOr', oLt, oLe, oGt, oGe, oLen, fAppR, flatS, scalD, sFor, fItems, oItems, fRng1, oRng1, fRng2, oRng2, sDrop, sRaise, sRetV, fIf, fLst, fTup, oSub, oNeg, oMax2, oMin2, oList, oIntB, noExC, sRetN, frz, sFrz, fMth, fListRg, oNone, oSome, fChain_eq, things3, many3, h1]
theorem noNumber_ex (cell far : Int) (hf : 0 ≤ far) : F_LnoNumber [.int cell, .int far] = .ex 6 := by
  obtain ⟨u, hu, hu2⟩ := mod_nat cell 2 (by decide)
  obtain ⟨m, hm, hm4⟩ := mod_nat (cell / 2) 4 (by decide)
  have e1 := oMod_pos cell 2 (by decide)
  have e2 := oDiv_pos cell 2 (by decide) (by decide)
  have e3 := oMod_pos (cell / 2) 4 (by decide)
  rw [show ((4 : Int)) = ((4 : Nat) : Int) from rfl, hm] at e3
  rw [show (cell % (2 : Int)) = cell % ((2 : Nat) : Int) from rfl, hu] at e1
  obtain ⟨s, hs, hb⟩ : ∃ s : Int, oIdx (.list [.int (-1), .int 13, .int (-1 - far), .int (13 + far)]) (.int (m : Int)) = okI s ∧ (s < 0 ∨ 12 < s) := by
    match m, hm4 with
    | 0, _ => exact ⟨-1, rfl, by omega⟩
    | 1, _ => exact ⟨13, rfl, by omega⟩
    | 2, _ => exact ⟨-1 - far, rfl, by omega⟩
    | 3, _ => exact ⟨13 + far, rfl, by omega⟩
  obtain ⟨s', hs', hb'⟩ : ∃ s : Int, oIdx (.list [.int (-1), .int 5, .int (-1 - far), .int (5 + far)]) (.int (m : Int)) = okI s ∧ (s < 0 ∨ 4 < s) := by
    match m, hm4 with
    | 0, _ => exact ⟨-1, rfl, by omega⟩
    | 1, _ => exact ⟨5, rfl, by omega⟩
    | 2, _ => exact ⟨-1 - far, rfl, by omega⟩
    | 3, _ => exact ⟨5 + far, rfl, by omega⟩
  have g0 : q_LnoNumber_0 [.sh (.int cell), .sh (.int far), .un] = .nx [.sh (.int cell), .sh (.int far), .sh (.int (u : Int))] := by
    refine (sSet_ok (r := .sh (.int (u : Int))) ?_).trans rfl
    rw [fBin_ok (x := .int cell) (y := .int 2) rfl rfl]
    exact e1
  have ix : fS (fBin oMod (fS (fBin oDiv (rVar 0) (fC (.int 2)))) (fC (.int 4))) [.sh (.int cell), .sh (.int far), .sh (.int (u : Int))] = .ok (.int (m : Int)) := by
    refine fS_ok (s := .sh (.int (m : Int))) ?_ rfl
    rw [fBin_ok (x := .int (cell / 2)) (y := .int 4) (fS_ok (s := .sh (.int (cell / 2))) (by rw [fBin_ok (x := .int cell) (y := .int 2) rfl rfl]; exact e2) rfl) rfl]
    exact e3
  have g1 : q_LnoNumber_1 [.sh (.int cell), .sh (.int far), .sh (.int (u : Int))] = .ex 6 [.sh (.int cell), .sh (.int far), .sh (.int (u : Int))] := by
    match u, hu2 with
    | 0, _ =>
      have pk : fS (fBin oIdx (fS (fLst (fCons (fS (fUn oNeg (fC (.int 1)))) (fCons (fC (.int 13)) (fCons (fS (fBin oSub (fS (fUn oNeg (fC (.int 1)))) (rVar 1))) (fCons (fS (fBin oAdd (fC (.int 13)) (lVar 1))) fNil)))))) (fS (fBin oMod (fS (fBin oDiv (rVar 0) (fC (.int 2)))) (fC (.int 4))))) [.sh (.int cell), .sh (.int far), .sh (.int ((0 : Nat) : Int))] = .ok (.int s) := by
        refine fS_ok (s := .sh (.int s)) ?_ rfl
        rw [fBin_ok (x := .list [.int (-1), .int 13, .int (-1 - far), .int (13 + far)]) (y := .int (m : Int)) rfl ix]
        exact hs
      have hd : q_LnoNumber_1a0 [.sh (.int cell), .sh (.int far), .sh (.int ((0 : Nat) : Int))] = .ex 6 [.sh (.int cell), .sh (.int far), .sh (.int ((0 : Nat) : Int))] := by
        exact sDrop_ex (fAppR2 rfl pk (manyWith3 hb))
      unfold q_LnoNumber_1 sIf
      rw [show fTB (fBin oEq (rVar 2) (fC (.int 0))) [.sh (.int cell), .sh (.int far), .sh (.int ((0 : Nat) : Int))] = .ok true from rfl]
      exact hd
    | 1, _ =>
      have pk : fS (fBin oIdx (fS (fLst (fCons (fS (fUn oNeg (fC (.int 1)))) (fCons (fC (.int 5)) (fCons (fS (fBin oSub (fS (fUn oNeg (fC (.int 1)))) (rVar 1))) (fCons (fS (fBin oAdd (fC (.int 5)) (lVar 1))) fNil)))))) (fS (fBin oMod (fS (fBin oDiv (rVar 0) (fC (.int 2)))) (fC (.int 4))))) [.sh (.int cell), .sh (.int far), .sh (.int ((1 : Nat) : Int))] = .ok (.int s') := by
        refine fS_ok (s := .sh (.int s')) ?_ rfl
        rw [fBin_ok (x := .list [.int (-1), .int 5, .int (-1 - far), .int (5 + far)]) (y := .int (m : Int)) rfl ix]
        exact hs'
      have hd : q_LnoNumber_1b0 [.sh (.int cell), .sh (.int far), .sh (.int ((1 : Nat) : Int))] = .ex 6 [.sh (.int cell), .sh (.int far), .sh (.int ((1 : Nat) : Int))] := by
        exact sDrop_ex (fAppR2 rfl pk (sharingAt3 hb'))
      unfold q_LnoNumber_1 sIf
      rw [show fTB (fBin oEq (rVar 2) (fC (.int 0))) [.sh (.int cell), .sh (.int far), .sh (.int ((1 : Nat) : Int))] = .ok false from rfl]
      exact hd
  have e : List.map Sl.sh [PyData.int cell, PyData.int far] ++ List.replicate (3 - [PyData.int cell, PyData.int far].length) Sl.un = [.sh (.int cell), .sh (.int far), .un] := rfl
  simp only [F_LnoNumber, fnF, b_LnoNumber, e]
  rw [sSeq_go g0, g1]
  rfl
end Sh

namespace Sh
open PySem PySem.Spec PyProof.Rows L2
theorem done_of {w cell far : Int} {c : Nat} {S : Sg} (h : q_Ldone_0 [.sh (.int w), .sh (.int cell), .sh (.int far)] = .ex c S) : F_Ldone [.int w, .int cell, .int far] = .ex c := by
  have e : List.map Sl.sh [PyData.int w, PyData.int cell, PyData.int far] ++ List.replicate (3 - [PyData.int w, PyData.int cell, PyData.int far].length) Sl.un = [.sh (.int w), .sh (.int cell), .sh (.int far)] := rfl
  simp only [F_Ldone, fnF, b_Ldone, e, h]
  rfl
def unl : List D := [.list [.int 0, .int 1, .int 0], .list [.int 0]]
def nfi : List D := [.list [.int 0, .int 0, .int 1], .list [.int 0, .int 0, .int 0], .list [.int 0, .int 1, .int 1]]
def txs : List Str := [("" : Str), ("0/" : Str), ("1/0" : Str), ("0 0" : Str), ("a" : Str), ("0  1" : Str), ("12" : Str)]
def wps : List D := [.tuple [.int 0, .int 1], .tuple [.int 3, .int 3], .tuple [.int 1, .int 0]]
theorem done_ex (w : Nat) (hw : w < 9) (cell far : Int) (hf : 0 ≤ far) : F_Ldone [.int (w : Int), .int cell, .int far] = .ex w := by
  match w, hw with
  | 0, _ =>
    refine done_of (S := [.sh (.int 0), .sh (.int cell), .sh (.int far)]) ?_
    show q_Ldone_0a0 _ = _
    exact sDrop_ex (fAppR2 rfl rfl (noThings_ex cell far hf))
  | 1, _ =>
    refine done_of (S := [.sh (.int 1), .sh (.int cell), .sh (.int far)]) ?_
    show q_Ldone_0b0a0 _ = _
    exact sDrop_ex (fAppR2 rfl rfl (noSharing_ex cell far hf))
  | 2, _ =>
    refine done_of (S := [.sh (.int 2), .sh (.int cell), .sh (.int far)]) ?_
    show q_Ldone_0b0b0a0 _ = _
    obtain ⟨m, hm, hm7⟩ := mod_nat cell 7 (by decide)
    have e1 := oMod_pos cell 7 (by decide)
    rw [show (cell % (7 : Int)) = cell % ((7 : Nat) : Int) from rfl, hm] at e1
    obtain ⟨d, hd, hx⟩ := noShares_ex m hm7 hf
    refine sDrop_ex (fAppR1 (x := d) (fS_ok (s := .sh d) ?_ rfl) hx)
    rw [fBin_ok (x := .list (noShs far)) (y := .int (m : Int)) rfl (fS_ok (s := .sh (.int (m : Int))) (by rw [fBin_ok (x := .int cell) (y := .int 7) rfl rfl]; exact e1) rfl)]
    exact hd
  | 3, _ =>
    refine done_of (S := [.sh (.int 3), .sh (.int cell), .sh (.int far)]) ?_
    show q_Ldone_0b0b0b0a0 _ = _
    obtain ⟨a, ha, ha6⟩ := mod_nat cell 6 (by decide)
    obtain ⟨m, hm, hm2⟩ := mod_nat (cell / 6) 2 (by decide)
    have e1 := oMod_pos cell 6 (by decide)
    have e2 := oDiv_pos cell 6 (by decide) (by decide)
    have e3 := oMod_pos (cell / 6) 2 (by decide)
    rw [show (cell % (6 : Int)) = cell % ((6 : Nat) : Int) from rfl, ha] at e1
    rw [show (cell / 6 % (2 : Int)) = cell / 6 % ((2 : Nat) : Int) from rfl, hm] at e3
    obtain ⟨d, hd, hx⟩ : ∃ d, oIdx (.list unl) (.int (m : Int)) = .ok (.sh d) ∧ F_askBoth [d, .list [.int 0, .int 1]] = .ex 3 := by
      match m, hm2 with
      | 0, _ => exact ⟨_, rfl, by kernel_rfl⟩
      | 1, _ => exact ⟨_, rfl, by kernel_rfl⟩
    refine sDrop_ex (fAppR3 (x := .int (a : Int)) (y := d) (z := .list [.int 0, .int 1]) (fS_ok (s := .sh (.int (a : Int))) ?_ rfl) (fS_ok (s := .sh d) ?_ rfl) rfl (ofTwo_both hx a ha6))
    · rw [fBin_ok (x := .int cell) (y := .int 6) rfl rfl]; exact e1
    · rw [fBin_ok (x := .list unl) (y := .int (m : Int)) rfl]
      · exact hd
      · refine fS_ok (s := .sh (.int (m : Int))) ?_ rfl
        rw [fBin_ok (x := .int (cell / 6)) (y := .int 2) (fS_ok (s := .sh (.int (cell / 6))) (by rw [fBin_ok (x := .int cell) (y := .int 6) rfl rfl]; exact e2) rfl) rfl]
        exact e3
  | 4, _ =>
    refine done_of (S := [.sh (.int 4), .sh (.int cell), .sh (.int far)]) ?_
    show q_Ldone_0b0b0b0b0a0 _ = _
    obtain ⟨a, ha, ha3⟩ := mod_nat cell 3 (by decide)
    obtain ⟨m, hm, hm3⟩ := mod_nat (cell / 3) 3 (by decide)
    have e1 := oMod_pos cell 3 (by decide)
    have e2 := oDiv_pos cell 3 (by decide) (by decide)
    have e3 := oMod_pos (cell / 3) 3 (by decide)
    rw [show (cell % (3 : Int)) = cell % ((3 : Nat) : Int) from rfl, ha] at e1
    rw [show (cell / 3 % (3 : Int)) = cell / 3 % ((3 : Nat) : Int) from rfl, hm] at e3
    obtain ⟨d, hd, hx⟩ : ∃ d, oIdx (.list nfi) (.int (m : Int)) = .ok (.sh d) ∧ F_askFiner [d, .list [.int 0, .int 1, .int 0]] = .ex 4 := by
      match m, hm3 with
      | 0, _ => exact ⟨_, rfl, by kernel_rfl⟩
      | 1, _ => exact ⟨_, rfl, by kernel_rfl⟩
      | 2, _ => exact ⟨_, rfl, by kernel_rfl⟩
    refine sDrop_ex (fAppR3 (x := .int ((3 + a : Nat) : Int)) (y := d) (z := .list [.int 0, .int 1, .int 0]) (fS_ok (s := .sh (.int ((3 + a : Nat) : Int))) ?_ rfl) (fS_ok (s := .sh d) ?_ rfl) rfl (ofTwo_finer hx (3 + a) (by omega) (by omega)))
    · rw [fBin_ok (x := .int 3) (y := .int (a : Int)) rfl (fS_ok (s := .sh (.int (a : Int))) (by rw [fBin_ok (x := .int cell) (y := .int 3) rfl rfl]; exact e1) rfl), oAdd_int]
      congr 3
    · rw [fBin_ok (x := .list nfi) (y := .int (m : Int)) rfl]
      · exact hd
      · refine fS_ok (s := .sh (.int (m : Int))) ?_ rfl
        rw [fBin_ok (x := .int (cell / 3)) (y := .int 3) (fS_ok (s := .sh (.int (cell / 3))) (by rw [fBin_ok (x := .int cell) (y := .int 3) rfl rfl]; exact e2) rfl) rfl]
        exact e3
  | 5, _ =>
    refine done_of (S := [.sh (.int 5), .sh (.int cell), .sh (.int far)]) ?_
    show q_Ldone_0b0b0b0b0b0a0 _ = _
    exact sDrop_ex (fAppR2 rfl rfl (noThing_ex cell far hf))
  | 6, _ =>
    refine done_of (S := [.sh (.int 6), .sh (.int cell), .sh (.int far)]) ?_
    show q_Ldone_0b0b0b0b0b0b0a0 _ = _
    exact sDrop_ex (fAppR2 rfl rfl (noNumber_ex cell far hf))
  | 7, _ =>
    refine done_of (S := [.sh (.int 7), .sh (.int cell), .sh (.int far)]) ?_
    show q_Ldone_0b0b0b0b0b0b0b0a0 _ = _
    obtain ⟨a, ha, ha2⟩ := mod_nat cell 2 (by decide)
    obtain ⟨m, hm, hm2⟩ := mod_nat (cell / 2) 2 (by decide)
    have e1 := oMod_pos cell 2 (by decide)
    have e2 := oDiv_pos cell 2 (by decide) (by decide)
    have e3 := oMod_pos (cell / 2) 2 (by decide)
    rw [show (cell % (2 : Int)) = cell % ((2 : Nat) : Int) from rfl, ha] at e1
    rw [show (cell / 2 % (2 : Int)) = cell / 2 % ((2 : Nat) : Int) from rfl, hm] at e3
    have hx : F_wayBy [.int 4, .list wps, .int (a : Int), .int ((2 + m : Nat) : Int)] = .ex 7 := by
      match a, ha2, m, hm2 with
      | 0, _, 0, _ => kernel_rfl
      | 0, _, 1, _ => kernel_rfl
      | 1, _, 0, _ => kernel_rfl
      | 1, _, 1, _ => kernel_rfl
    refine sDrop_ex (fAppR4 (x := .int 4) (y := .list wps) (z := .int (a : Int)) (w := .int ((2 + m : Nat) : Int)) rfl rfl (fS_ok (s := .sh (.int (a : Int))) ?_ rfl) (fS_ok (s := .sh (.int ((2 + m : Nat) : Int))) ?_ rfl) hx)
    · rw [fBin_ok (x := .int cell) (y := .int 2) rfl rfl]; exact e1
    · rw [fBin_ok (x := .int 2) (y := .int (m : Int)) rfl]
      · rw [oAdd_int]; congr 3
      · refine fS_ok (s := .sh (.int (m : Int))) ?_ rfl
        rw [fBin_ok (x := .int (cell / 2)) (y := .int 2) (fS_ok (s := .sh (.int (cell / 2))) (by rw [fBin_ok (x := .int cell) (y := .int 2) rfl rfl]; exact e2) rfl) rfl]
        exact e3
  | 8, _ =>
    refine done_of (S := [.sh (.int 8), .sh (.int cell), .sh (.int far)]) ?_
    show q_Ldone_0b0b0b0b0b0b0b0b0 _ = _
    obtain ⟨m, hm, hm7⟩ := mod_nat cell 7 (by decide)
    have e1 := oMod_pos cell 7 (by decide)
    rw [show (cell % (7 : Int)) = cell % ((7 : Nat) : Int) from rfl, hm] at e1
    obtain ⟨d, hd, hx⟩ : ∃ d, oIdx (.list (txs.map .str)) (.int (m : Int)) = .ok (.sh d) ∧ F_read [d] = .ex 8 := by
      match m, hm7 with
      | 0, _ => exact ⟨_, rfl, by kernel_rfl⟩
      | 1, _ => exact ⟨_, rfl, by kernel_rfl⟩
      | 2, _ => exact ⟨_, rfl, by kernel_rfl⟩
      | 3, _ => exact ⟨_, rfl, by kernel_rfl⟩
      | 4, _ => exact ⟨_, rfl, by kernel_rfl⟩
      | 5, _ => exact ⟨_, rfl, by kernel_rfl⟩
      | 6, _ => exact ⟨_, rfl, by kernel_rfl⟩
    refine sDrop_ex (fAppR1 (x := d) (fS_ok (s := .sh d) ?_ rfl) hx)
    rw [fBin_ok (x := .list (txs.map .str)) (y := .int (m : Int)) rfl (fS_ok (s := .sh (.int (m : Int))) (by rw [fBin_ok (x := .int cell) (y := .int 7) rfl rfl]; exact e1) rfl)]
    exact hd
theorem law_end (w : Nat) (hw : w < 9) (scr : D) (far : Int) : ∃ l, h_which w = some l ∧ q_law_4 [.sh scr, .sh (.int (w : Int)), .sh (.int far), .ow (l.map .bool), .un, .un] = .rt (.sh (.bool true)) := by
  match w, hw with
  | 0, _ => exact ⟨_, rfl, by rfl⟩
  | 1, _ => exact ⟨_, rfl, by rfl⟩
  | 2, _ => exact ⟨_, rfl, by rfl⟩
  | 3, _ => exact ⟨_, rfl, by rfl⟩
  | 4, _ => exact ⟨_, rfl, by rfl⟩
  | 5, _ => exact ⟨_, rfl, by rfl⟩
  | 6, _ => exact ⟨_, rfl, by rfl⟩
  | 7, _ => exact ⟨_, rfl, by rfl⟩
  | 8, _ => exact ⟨_, rfl, by rfl⟩
/-! ### F_LcellAt, F_Lmarks -/
theorem F_LcellAt_eq (ns : List Int) (k : Int) (h0 : 0 ≤ k) : F_LcellAt [scrD ns, .int k] = okI (cellZ ns k) := by
  by_cases h : k < ns.length
  · simp [F_LcellAt, fnF, b_LcellAt, q_LcellAt_0, q_LcellAt_0a0, q_LcellAt_1, sSeq, sIf, fTB, fBin, rVar, lVar, fApp, fCons, fNil, Rs.bind, Rs.thenO, oLt, oLen, scrD, Rs.tb, Sl.d?, fS, sRet, sNext, oIdx, h, List.map_map, Function.comp_def, atI_lt h0 h]
  · simp [F_LcellAt, fnF, b_LcellAt, q_LcellAt_0, q_LcellAt_0a0, q_LcellAt_1, sSeq, sIf, fTB, fBin, rVar, lVar, fApp, fCons, fNil, Rs.bind, Rs.thenO, oLt, oLen, scrD, Rs.tb, Sl.d?, fS, sRet, sNext, oIdx, h, fX, fC]
    unfold cellZ
    rw [List.getD_eq_getElem?_getD, List.getElem?_eq_none (by omega)]
    rfl
theorem scr_things (ns : List Int) : ∃ n : Nat, 1 + cellZ ns 0 % 12 = (n : Int) ∧ 1 ≤ n ∧ n ≤ 12 := by
  have h1 := Int.emod_nonneg (cellZ ns 0) (show (12 : Int) ≠ 0 by decide)
  have h2 := Int.emod_lt_of_pos (cellZ ns 0) (show (0 : Int) < 12 by decide)
  exact ⟨(1 + cellZ ns 0 % 12).toNat, by omega, by omega, by omega⟩
theorem law_true : ∀ ns : List Int, ns.length ≤ 63 → F_law [scrD ns] = okB true := fun ns _ => by
  obtain ⟨w, hw, hw9⟩ := mod_nat (cellZ ns 0) 9 (by decide)
  have c0 := F_LcellAt_eq ns 0 (by decide)
  have c1 := F_LcellAt_eq ns 1 (by decide)
  have c2 := F_LcellAt_eq ns 2 (by decide)
  have e1 := oMod_pos (cellZ ns 0) 9 (by decide)
  rw [show (cellZ ns 0 % (9 : Int)) = cellZ ns 0 % ((9 : Nat) : Int) from rfl, hw] at e1
  have e2 := oMod_pos (cellZ ns 2) (10 ^ 59) (by decide)
  have hp : oPow (.int 10) (.int 59) = okI (10 ^ 59) := by
    simp [oPow]
  have hf : 0 ≤ cellZ ns 2 % (10 : Int) ^ 59 := Int.emod_nonneg _ (by decide)
  generalize hfar : cellZ ns 2 % (10 : Int) ^ 59 = far at e2 hf
  have ca : ∀ (k : Int) (r : Int) (S : Sg), rVar 0 S = .ok (scrD ns) → F_LcellAt [scrD ns, .int k] = okI r → fS (fAppR F_LcellAt (fCons (rVar 0) (fCons (fC (.int k)) fNil))) S = .ok (.int r) := fun k r S h1 h2 => by
    simp only [fS, fAppR, fCons, fNil, h1, fC, Rs.bind, h2, flatS, scalD, if_true, Sl.d?]
  have g0 : q_law_0 [.sh (scrD ns), .un, .un, .un, .un, .un] = .nx [.sh (scrD ns), .sh (.int (w : Int)), .un, .un, .un, .un] := by
    refine (sSet_ok (r := .sh (.int (w : Int))) ?_).trans rfl
    rw [fBin_ok (x := .int (cellZ ns 0)) (y := .int 9) (ca 0 _ _ rfl c0) rfl]
    exact e1
  have g1 : q_law_1 [.sh (scrD ns), .sh (.int (w : Int)), .un, .un, .un, .un] = .nx [.sh (scrD ns), .sh (.int (w : Int)), .sh (.int far), .un, .un, .un] := by
    refine (sSet_ok (r := .sh (.int far)) ?_).trans rfl
    rw [fBin_ok (x := .int (cellZ ns 2)) (y := .int (10 ^ 59)) (ca 2 _ _ rfl c2) (fS_ok (s := .sh (.int (10 ^ 59))) (by rw [fBin_ok (x := .int 10) (y := .int 59) rfl rfl]; exact hp) rfl)]
    exact e2
  have g2 : q_law_2 [.sh (scrD ns), .sh (.int (w : Int)), .sh (.int far), .un, .un, .un] = .nx [.sh (scrD ns), .sh (.int (w : Int)), .sh (.int far), .ow [], .un, .un] := rfl
  obtain ⟨l, hl, hend⟩ := law_end w hw9 (scrD ns) far
  have hd := done_ex w hw9 (cellZ ns 1) far hf
  have g3 : q_law_3 [.sh (scrD ns), .sh (.int (w : Int)), .sh (.int far), .ow [], .un, .un] = .nx [.sh (scrD ns), .sh (.int (w : Int)), .sh (.int far), .ow (l.map .bool), .un, .un] := by
    have hb : q_law_3a0 [.sh (scrD ns), .sh (.int (w : Int)), .sh (.int far), .ow [], .un, .un] = .ex w [.sh (scrD ns), .sh (.int (w : Int)), .sh (.int far), .ow [], .un, .un] :=
      sDrop_ex (fAppR3 (x := .int (w : Int)) (y := .int (cellZ ns 1)) (z := .int far) rfl (ca 1 _ _ rfl c1) rfl hd)
    unfold q_law_3 sTryW
    rw [hb]
    dsimp only
    rw [hl]
    rfl
  have e : List.map Sl.sh [scrD ns] ++ List.replicate (6 - [scrD ns].length) Sl.un = [.sh (scrD ns), .un, .un, .un, .un, .un] := rfl
  simp only [F_law, fnF, b_law, e]
  rw [sSeq_go g0, sSeq_go g1, sSeq_go g2, sSeq_go g3, hend]
  rfl
end Sh

namespace Sh
open PySem PySem.Spec PyProof.Rows L2
theorem hu65 {A : Around} {k : Nat} (hr : Room k A) : A.units + 65 < cLine := by
  have := hr.un
  omega
def topS (i : Nat) : Stmt := PySem.Challenge.pw_sharings_k14_each_refusal_its_own.main.body.getD i (.Pass ⟨0, 0, 0, 0⟩)
local macro_rules | `(tactic| walk_at "vis") => `(tactic| first | exact Or.inl rfl | exact Or.inr (Or.inl rfl) | exact Or.inr (Or.inr rfl))
local macro_rules | `(tactic| walk_at "loc") => `(tactic| first | exact Or.inl rfl | exact Or.inr rfl)
structure Tx (K : PySem.W.Frag) (mg : Str → Option Value) (A : Nat → Addr) : Prop where
  n_ValueError : mg "ValueError" = none
  n_int : mg "int" = none
  n_isinstance : mg "isinstance" = none
  n_len : mg "len" = none
  n_list : mg "list" = none
  n_max : mg "max" = none
  n_min : mg "min" = none
  n_range : mg "range" = none
  n_reversed : mg "reversed" = none
  n_set : mg "set" = none
  n_sorted : mg "sorted" = none
  n_str : mg "str" = none
  n_sum : mg "sum" = none
  g_MOST : ∃ t, mg "MOST" = some (.int 12 t)
  g_FIGURES : ∃ t, mg "FIGURES" = some (.str "0123456789" t)
  x_NoNumber : ExcK K mg A "NoNumber" 6
  x_NoShares : ExcK K mg A "NoShares" 2
  x_NoSharing : ExcK K mg A "NoSharing" 1
  x_NoThing : ExcK K mg A "NoThing" 5
  x_NoThings : ExcK K mg A "NoThings" 0
  x_NoWay : ExcK K mg A "NoWay" 7
  x_NotFiner : ExcK K mg A "NotFiner" 4
  x_NotRead : ExcK K mg A "NotRead" 8
  x_ShareError : ExcK K mg A "ShareError" 9
  x_Unlike : ExcK K mg A "Unlike" 3
  em_NoShares : PySem.W.exmOne K (.ref (A 2)) (.ref (A 2)) = some true
  tw_NoThings : Tr9 K A 0
  tw_NoSharing : Tr9 K A 1
  tw_NoShares : Tr9 K A 2
  tw_Unlike : Tr9 K A 3
  tw_NotFiner : Tr9 K A 4
  tw_NoThing : Tr9 K A 5
  tw_NoNumber : Tr9 K A 6
  tw_NoWay : Tr9 K A 7
  tw_NotRead : Tr9 K A 8
abbrev s_isSharing : Stmt := topS 13
theorem sc_isSharing : FnScope N_isSharing ["one"] (defScope s_isSharing) := ⟨rfl, rfl, rfl, by decide +kernel, rfl, by decide +kernel, by decide +kernel⟩
theorem ok_isSharing {P : Program} {w : World} {K : PySem.W.Frag} {mg : Str → Option Value} {base : Heap} {A : Nat → Addr} (D_ : Df K mg "is_sharing" s_isSharing) (T : Tx K mg A)  : Cal P w K mg base A 1 "is_sharing" ["one"] F_isSharing :=
  df_cal (N := N_isSharing) D_ sc_isSharing (fun _ _ _ _ _ _ us hl => match us, hl with | [_], _ => rfl) fun f cdv A0 outer s H E ds hr => (show SB _ _ _ _ b_isSharing from (sb_cons (sx_if (et_not (et_chain op_le n_le k_le op_le n_le k_le (er_k e_int) (er_x (ex_callB call_lenU n_len k_len rfl T.n_len PySem.boot_len (ea_cons (v_rd 0) ea_nil))) (er_k (e_globI rfl T.g_MOST.choose_spec)))) (sb_one (sx_ret (ex_s e_bl))) sb_nil)
  (sb_cons (sx_set (i := 1) sc_isSharing.nd rfl (by walk_at "loc") (ex_s e_int))
  (sb_cons (sx_for (j := 2) (passes_of rfl) rfl (ix_seq' (v_st 0)) sc_isSharing.nd rfl (by walk_at "loc") (sb_cons (sx_if (et_not (et_chain op_le n_le k_le op_le n_le k_le (er_k e_int) (v_rd 2) (v_rd 1))) (sb_one (sx_ret (ex_s e_bl))) sb_nil)
  (sb_one (sx_if (et_cmp (op_eqD hr.units) n_eq k_eq (v_rd 2) (v_rd 1) (nomark _)) (sb_one (sx_set (i := 1) sc_isSharing.nd rfl (by walk_at "loc") (ex_op op_addU n_add k_add (v_cn 1) (ec_s e_int)))) sb_nil))))
  (sb_one (sx_ret (ex_s e_bl)))))))
abbrev s_ask : Stmt := topS 14
theorem sc_ask : FnScope N_ask ["one"] (defScope s_ask) := ⟨rfl, rfl, rfl, by decide +kernel, rfl, by decide +kernel, by decide +kernel⟩
theorem ok_ask {P : Program} {w : World} {K : PySem.W.Frag} {mg : Str → Option Value} {base : Heap} {A : Nat → Addr} (D_ : Df K mg "ask" s_ask) (T : Tx K mg A) (C_isSharing : Cal P w K mg base A 1 "is_sharing" ["one"] F_isSharing) : Cal P w K mg base A 2 "ask" ["one"] F_ask :=
  df_cal (N := N_ask) D_ sc_ask (fun _ _ _ _ _ _ us hl => match us, hl with | [_], _ => rfl) fun f cdv A0 outer s H E ds hr => (show SB _ _ _ _ b_ask from (sb_one (sx_if (et_not (et_val (c_callR C_isSharing (hr.mono (by decide)) (takes_of rfl rfl rfl rfl) (ea_cons (v_rd 0) ea_nil)))) (sb_one (sx_raise rfl (takes_of rfl rfl rfl rfl) T.x_NoSharing)) sb_nil)))
abbrev s_sharesBy : Stmt := topS 15
theorem sc_sharesBy : FnScope N_sharesBy ["one"] (defScope s_sharesBy) := ⟨rfl, rfl, rfl, by decide +kernel, rfl, by decide +kernel, by decide +kernel⟩
theorem ok_sharesBy {P : Program} {w : World} {K : PySem.W.Frag} {mg : Str → Option Value} {base : Heap} {A : Nat → Addr} (D_ : Df K mg "shares_by" s_sharesBy) (T : Tx K mg A)  : Cal P w K mg base A 1 "shares_by" ["one"] F_sharesBy :=
  df_cal (N := N_sharesBy) D_ sc_sharesBy (fun _ _ _ _ _ _ us hl => match us, hl with | [_], _ => rfl) fun f cdv A0 outer s H E ds hr => (show SB _ _ _ _ b_sharesBy from (sb_cons (sx_setLc2 (i := 1) rfl sc_sharesBy.nd rfl rfl (sw_true rfl rfl rfl (by decide +kernel)) (ix_range1 rfl T.n_range (ea_cons (er_x (ex_op op_addU n_add k_add (ec_x (ex_callB (cr_max rfl) n_max k_max rfl T.n_max (by decide +kernel) (ea_cons (v_rd 0) ea_nil))) (ec_s e_int))) ea_nil)) (blkOk_by (N := N_sharesBy) (sc := defScope s_sharesBy) (by decide +kernel)) (fun _ _ _ _ _ => pg_name (i := 2) sc_sharesBy.nd rfl (by walk_at "loc")) (fun _ _ _ _ _ => (ex_lst ea_nil)))
  (sb_cons (sx_for (j := 3) (passes_of rfl) rfl (ix_range1 rfl T.n_range (ea_cons (er_x (ex_callB call_lenU n_len k_len rfl T.n_len PySem.boot_len (ea_cons (v_rd 0) ea_nil))) ea_nil)) sc_sharesBy.nd rfl (by walk_at "loc") (sb_one (sx_appAt (i := 1) rfl (by walk_at "vis") (er_x (ex_ix ix_seq n_idx k_idx (v_cn 0) (v_rd 3) (fun _ _ => rfl))) (v_st 3) (fun _ _ => rfl))))
  (sb_one (sx_retV (i := 1) rfl (by walk_at "vis"))))))
abbrev s_sharesOf : Stmt := topS 16
theorem sc_sharesOf : FnScope N_sharesOf ["one"] (defScope s_sharesOf) := ⟨rfl, rfl, rfl, by decide +kernel, rfl, by decide +kernel, by decide +kernel⟩
theorem ok_sharesOf {P : Program} {w : World} {K : PySem.W.Frag} {mg : Str → Option Value} {base : Heap} {A : Nat → Addr} (D_ : Df K mg "shares_of" s_sharesOf) (T : Tx K mg A) (C_ask : Cal P w K mg base A 2 "ask" ["one"] F_ask) (C_sharesBy : Cal P w K mg base A 1 "shares_by" ["one"] F_sharesBy) : Cal P w K mg base A 3 "shares_of" ["one"] F_sharesOf :=
  df_cal (N := N_sharesOf) D_ sc_sharesOf (fun _ _ _ _ _ _ us hl => match us, hl with | [_], _ => rfl) fun f cdv A0 outer s H E ds hr => (show SB _ _ _ _ b_sharesOf from (sb_cons (sx_drop (c_callR C_ask (hr.mono (by decide)) (takes_of rfl rfl rfl rfl) (ea_cons (v_rd 0) ea_nil)))
  (sb_one (sx_ret (c_call C_sharesBy (hr.mono (by decide)) (takes_of rfl rfl rfl rfl) (ea_cons (v_st 0) ea_nil))))))
abbrev s_marked : Stmt := topS 17
theorem sc_marked : FnScope N_marked ["names"] (defScope s_marked) := ⟨rfl, rfl, rfl, by decide +kernel, rfl, by decide +kernel, by decide +kernel⟩
theorem ok_marked {P : Program} {w : World} {K : PySem.W.Frag} {mg : Str → Option Value} {base : Heap} {A : Nat → Addr} (D_ : Df K mg "marked" s_marked) (T : Tx K mg A)  : CalN P w K mg base A 1 "marked" ["names"] F_marked :=
  df_calN (N := N_marked) D_ sc_marked (fun _ _ _ _ _ _ us hl => match us, hl with | [_], _ => rfl) fun f cdv A0 outer s H E ds hr => (by
  try dsimp only
  split
  · exact (show SB _ _ _ _ b_markedT from (sb_cons (sx_set (i := 1) sc_marked.nd rfl (by walk_at "loc") ex_dnewT)
  (sb_cons (sx_for (j := 2) (passes_of rfl) rfl (ix_seq' (v_st 0)) sc_marked.nd rfl (by walk_at "loc") (sb_one (sx_if (et_dnotin (hu_of hr) (v_rd 2) (i := 1) rfl (by walk_at "vis")) (sb_one (sx_dput (hu_of hr) (i := 1) rfl (by walk_at "vis") (v_rd 2) (et_dlen (i := 1) rfl T.n_len rfl (by walk_at "vis")))) sb_nil)))
  (sb_one (sx_ret (ex_comp rfl sc_marked.nd (ix_seq' (v_st 0)) (blkOk_by (N := N_marked) (sc := defScope s_marked) (by decide +kernel)) (fun _ _ _ _ _ => pg_name (i := 2) sc_marked.nd rfl (by walk_at "loc")) (fun _ _ _ _ _ => eif_nil) (fun _ _ _ _ _ => (et_dget (hu_of hr) (i := 1) rfl (by walk_at "vis") (v_rd 2) (fun _ _ => rfl)))))))))
  · exact (show SB _ _ _ _ b_marked from (sb_cons (sx_set (i := 1) sc_marked.nd rfl (by walk_at "loc") ex_dnewK)
  (sb_cons (sx_for (j := 2) (passes_of rfl) rfl (ix_seq' (v_st 0)) sc_marked.nd rfl (by walk_at "loc") (sb_one (sx_if (et_dnotin (hu_of hr) (v_rd 2) (i := 1) rfl (by walk_at "vis")) (sb_one (sx_dput (hu_of hr) (i := 1) rfl (by walk_at "vis") (v_rd 2) (et_dlen (i := 1) rfl T.n_len rfl (by walk_at "vis")))) sb_nil)))
  (sb_one (sx_ret (ex_comp rfl sc_marked.nd (ix_seq' (v_st 0)) (blkOk_by (N := N_marked) (sc := defScope s_marked) (by decide +kernel)) (fun _ _ _ _ _ => pg_name (i := 2) sc_marked.nd rfl (by walk_at "loc")) (fun _ _ _ _ _ => eif_nil) (fun _ _ _ _ _ => (et_dget (hu_of hr) (i := 1) rfl (by walk_at "vis") (v_rd 2) (fun _ _ => rfl))))))))))
abbrev s_marksOf : Stmt := topS 18
theorem sc_marksOf : FnScope N_marksOf ["shares"] (defScope s_marksOf) := ⟨rfl, rfl, rfl, by decide +kernel, rfl, by decide +kernel, by decide +kernel⟩
theorem ok_marksOf {P : Program} {w : World} {K : PySem.W.Frag} {mg : Str → Option Value} {base : Heap} {A : Nat → Addr} (D_ : Df K mg "marks_of" s_marksOf) (T : Tx K mg A) (CN_marked : CalN P w K mg base A 1 "marked" ["names"] F_marked) : CalN P w K mg base A 2 "marks_of" ["shares"] F_marksOf :=
  df_calN (N := N_marksOf) D_ sc_marksOf (fun _ _ _ _ _ _ us hl => match us, hl with | [_], _ => rfl) fun f cdv A0 outer s H E ds hr => (show SB _ _ _ _ b_marksOf from (sb_cons (sx_set (i := 1) sc_marksOf.nd rfl (by walk_at "loc") (ex_lst ea_nil))
  (sb_cons (sx_for (j := 2) (passes_of rfl) rfl (ix_seq' (v_st 0)) sc_marksOf.nd rfl (by walk_at "loc") (sb_one (sx_set (i := 1) sc_marksOf.nd rfl (by walk_at "loc") (ex_op op_addU n_add k_add (v_cn 1) (v_cn 2)))))
  (sb_cons (sx_if (et_w (ew_or (et_not (et_chain op_le n_le k_le op_le n_le k_le (er_k e_int) (er_x (ex_callB call_lenU n_len k_len rfl T.n_len PySem.boot_len (ea_cons (v_rd 1) ea_nil))) (er_k (e_globI rfl T.g_MOST.choose_spec)))) (ew_or1 (et_cmp (op_neD hr.units) n_ne k_ne (er_x (ex_callB cr_sorted n_sorted k_sorted rfl T.n_sorted (by decide +kernel) (ea_cons (v_rd 1) ea_nil))) (er_x (ex_listRg rfl rfl T.n_list rfl T.n_range (er_x (ex_callB call_lenU n_len k_len rfl T.n_len PySem.boot_len (ea_cons (v_rd 1) ea_nil))))) (nomark _))))) (sb_one (sx_raiseN rfl (L2N.takes_of rfl rfl rfl rfl) T.x_NoShares)) sb_nil)
  (sb_cons (sx_set (i := 3) sc_marksOf.nd rfl (by walk_at "loc") (ex_op op_mulU n_mul k_mul (ec_x (ex_lst (ea_cons e_int ea_nil))) (er_x (ex_callB call_lenU n_len k_len rfl T.n_len PySem.boot_len (ea_cons (v_rd 1) ea_nil)))))
  (sb_cons (sx_for (j := 4) (passes_of rfl) rfl (ix_range1 rfl T.n_range (ea_cons (er_x (ex_callB call_lenU n_len k_len rfl T.n_len PySem.boot_len (ea_cons (v_rd 0) ea_nil))) ea_nil)) sc_marksOf.nd rfl (by walk_at "loc") (sb_cons (sx_if (et_cmp (op_eqD hr.units) n_eq k_eq (er_x (ex_callB call_lenU n_len k_len rfl T.n_len PySem.boot_len (ea_cons (er_x (ex_ix ix_seq n_idx k_idx (v_cn 0) (v_rd 4) (fun _ _ => rfl))) ea_nil))) (er_k e_int) (nomark _)) (sb_one (sx_raiseN rfl (L2N.takes_of rfl rfl rfl rfl) T.x_NoShares)) sb_nil)
  (sb_one (sx_for (j := 5) (passes_of rfl) rfl (ix_seq' (es_x (ex_ix ix_seq n_idx k_idx (v_cn 0) (v_rd 4) (fun _ _ => rfl)))) sc_marksOf.nd rfl (by walk_at "loc") (sb_one (sx_setAt (i := 3) rfl (by walk_at "vis") (v_rd 5) (v_st 4)))))))
  (sb_one (sx_ret (c_callRN CN_marked (hr.mono (by decide)) (L2N.takes_of rfl rfl rfl rfl) (ea_cons (v_rd 3) ea_nil))))))))))
abbrev s_sizes : Stmt := topS 19
theorem sc_sizes : FnScope N_sizes ["one"] (defScope s_sizes) := ⟨rfl, rfl, rfl, by decide +kernel, rfl, by decide +kernel, by decide +kernel⟩
theorem ok_sizes {P : Program} {w : World} {K : PySem.W.Frag} {mg : Str → Option Value} {base : Heap} {A : Nat → Addr} (D_ : Df K mg "sizes" s_sizes) (T : Tx K mg A) (C_ask : Cal P w K mg base A 2 "ask" ["one"] F_ask) (C_sharesBy : Cal P w K mg base A 1 "shares_by" ["one"] F_sharesBy) : Cal P w K mg base A 3 "sizes" ["one"] F_sizes :=
  df_cal (N := N_sizes) D_ sc_sizes (fun _ _ _ _ _ _ us hl => match us, hl with | [_], _ => rfl) fun f cdv A0 outer s H E ds hr => (show SB _ _ _ _ b_sizes from (sb_cons (sx_drop (c_callR C_ask (hr.mono (by decide)) (takes_of rfl rfl rfl rfl) (ea_cons (v_rd 0) ea_nil)))
  (sb_one (sx_ret (ex_listRev rfl rfl T.n_list rfl T.n_reversed (ec_x (ex_callB cr_sorted n_sorted k_sorted rfl T.n_sorted (by decide +kernel) (ea_cons (er_x (ex_comp rfl sc_sizes.nd (ix_seq' (es_x (c_call C_sharesBy (hr.mono (by decide)) (takes_of rfl rfl rfl rfl) (ea_cons (v_st 0) ea_nil)))) (blkOk_by (N := N_sizes) (sc := defScope s_sizes) (by decide +kernel)) (fun _ _ _ _ _ => pg_name (i := 1) sc_sizes.nd rfl (by walk_at "loc")) (fun _ _ _ _ _ => eif_nil) (fun _ _ _ _ _ => (es_x (ex_callB call_lenU n_len k_len rfl T.n_len PySem.boot_len (ea_cons (v_rd 1) ea_nil)))))) ea_nil))))))))
abbrev s_askBoth : Stmt := topS 21
theorem sc_askBoth : FnScope N_askBoth ["one", "other"] (defScope s_askBoth) := ⟨rfl, rfl, rfl, by decide +kernel, rfl, by decide +kernel, by decide +kernel⟩
theorem ok_askBoth {P : Program} {w : World} {K : PySem.W.Frag} {mg : Str → Option Value} {base : Heap} {A : Nat → Addr} (D_ : Df K mg "ask_both" s_askBoth) (T : Tx K mg A) (C_ask : Cal P w K mg base A 2 "ask" ["one"] F_ask) : Cal P w K mg base A 3 "ask_both" ["one", "other"] F_askBoth :=
  df_cal (N := N_askBoth) D_ sc_askBoth (fun _ _ _ _ _ _ us hl => match us, hl with | [_, _], _ => rfl) fun f cdv A0 outer s H E ds hr => (show SB _ _ _ _ b_askBoth from (sb_cons (sx_drop (c_callR C_ask (hr.mono (by decide)) (takes_of rfl rfl rfl rfl) (ea_cons (v_rd 0) ea_nil)))
  (sb_cons (sx_drop (c_callR C_ask (hr.mono (by decide)) (takes_of rfl rfl rfl rfl) (ea_cons (v_rd 1) ea_nil)))
  (sb_one (sx_if (et_cmp (op_neD hr.units) n_ne k_ne (er_x (ex_callB call_lenU n_len k_len rfl T.n_len PySem.boot_len (ea_cons (v_rd 0) ea_nil))) (er_x (ex_callB call_lenU n_len k_len rfl T.n_len PySem.boot_len (ea_cons (v_rd 1) ea_nil))) (nomark _)) (sb_one (sx_raise rfl (takes_of rfl rfl rfl rfl) T.x_Unlike)) sb_nil)))))
abbrev s_finerBy : Stmt := topS 22
theorem sc_finerBy : FnScope N_finerBy ["one", "other"] (defScope s_finerBy) := ⟨rfl, rfl, rfl, by decide +kernel, rfl, by decide +kernel, by decide +kernel⟩
theorem ok_finerBy {P : Program} {w : World} {K : PySem.W.Frag} {mg : Str → Option Value} {base : Heap} {A : Nat → Addr} (D_ : Df K mg "finer_by" s_finerBy) (T : Tx K mg A)  : Cal P w K mg base A 1 "finer_by" ["one", "other"] F_finerBy :=
  df_cal (N := N_finerBy) D_ sc_finerBy (fun _ _ _ _ _ _ us hl => match us, hl with | [_, _], _ => rfl) fun f cdv A0 outer s H E ds hr => (show SB _ _ _ _ b_finerBy from (sb_cons (sx_set (i := 2) sc_finerBy.nd rfl (by walk_at "loc") ex_dnewK)
  (sb_cons (sx_for (j := 3) (passes_of rfl) rfl (ix_range1 rfl T.n_range (ea_cons (er_x (ex_callB call_lenU n_len k_len rfl T.n_len PySem.boot_len (ea_cons (v_rd 0) ea_nil))) ea_nil)) sc_finerBy.nd rfl (by walk_at "loc") (sb_one (sx_ifSetd hr.units (i := 2) rfl (by walk_at "vis") (er_x (ex_ix ix_seq n_idx k_idx (v_cn 0) (v_rd 3) (fun _ _ => rfl))) (es_x (ex_ix ix_seq n_idx k_idx (v_cn 1) (v_rd 3) (fun _ _ => rfl))) (er_x (ex_ix ix_seq n_idx k_idx (v_cn 1) (v_rd 3) (fun _ _ => rfl))) (sb_one (sx_ret (ex_s e_bl))) ⟨rfl, rfl, rfl, rfl⟩)))
  (sb_one (sx_ret (ex_s e_bl))))))
abbrev s_isFiner : Stmt := topS 23
theorem sc_isFiner : FnScope N_isFiner ["one", "other"] (defScope s_isFiner) := ⟨rfl, rfl, rfl, by decide +kernel, rfl, by decide +kernel, by decide +kernel⟩
theorem ok_isFiner {P : Program} {w : World} {K : PySem.W.Frag} {mg : Str → Option Value} {base : Heap} {A : Nat → Addr} (D_ : Df K mg "is_finer" s_isFiner) (T : Tx K mg A) (C_askBoth : Cal P w K mg base A 3 "ask_both" ["one", "other"] F_askBoth) (C_finerBy : Cal P w K mg base A 1 "finer_by" ["one", "other"] F_finerBy) : Cal P w K mg base A 4 "is_finer" ["one", "other"] F_isFiner :=
  df_cal (N := N_isFiner) D_ sc_isFiner (fun _ _ _ _ _ _ us hl => match us, hl with | [_, _], _ => rfl) fun f cdv A0 outer s H E ds hr => (show SB _ _ _ _ b_isFiner from (sb_cons (sx_drop (c_callR C_askBoth (hr.mono (by decide)) (takes_of rfl rfl rfl rfl) (ea_cons (v_rd 0) (ea_cons (v_rd 1) ea_nil))))
  (sb_one (sx_ret (c_callR C_finerBy (hr.mono (by decide)) (takes_of rfl rfl rfl rfl) (ea_cons (v_rd 0) (ea_cons (v_rd 1) ea_nil)))))))
abbrev s_meeting : Stmt := topS 24
theorem sc_meeting : FnScope N_meeting ["one", "other"] (defScope s_meeting) := ⟨rfl, rfl, rfl, by decide +kernel, rfl, by decide +kernel, by decide +kernel⟩
theorem ok_meeting {P : Program} {w : World} {K : PySem.W.Frag} {mg : Str → Option Value} {base : Heap} {A : Nat → Addr} (D_ : Df K mg "meeting" s_meeting) (T : Tx K mg A) (C_askBoth : Cal P w K mg base A 3 "ask_both" ["one", "other"] F_askBoth) (C_marked : Cal P w K mg base A 1 "marked" ["names"] F_marked) : Cal P w K mg base A 4 "meeting" ["one", "other"] F_meeting :=
  df_cal (N := N_meeting) D_ sc_meeting (fun _ _ _ _ _ _ us hl => match us, hl with | [_, _], _ => rfl) fun f cdv A0 outer s H E ds hr => (show SB _ _ _ _ b_meeting from (sb_cons (sx_drop (c_callR C_askBoth (hr.mono (by decide)) (takes_of rfl rfl rfl rfl) (ea_cons (v_rd 0) (ea_cons (v_rd 1) ea_nil))))
  (sb_one (sx_ret (c_callR C_marked (hr.mono (by decide)) (takes_of rfl rfl rfl rfl) (ea_cons (er_x (ex_comp rfl sc_meeting.nd (ix_range1 rfl T.n_range (ea_cons (er_x (ex_callB call_lenU n_len k_len rfl T.n_len PySem.boot_len (ea_cons (v_rd 0) ea_nil))) ea_nil)) (blkOk_by (N := N_meeting) (sc := defScope s_meeting) (by decide +kernel)) (fun _ _ _ _ _ => pg_name (i := 2) sc_meeting.nd rfl (by walk_at "loc")) (fun _ _ _ _ _ => eif_nil) (fun _ _ _ _ _ => (et_tup (ea_cons (es_x (ex_ix ix_seq n_idx k_idx (v_cn 0) (v_rd 2) (fun _ _ => rfl))) (ea_cons (es_x (ex_ix ix_seq n_idx k_idx (v_cn 1) (v_rd 2) (fun _ _ => rfl))) ea_nil)))))) ea_nil))))))
abbrev s_merged : Stmt := topS 25
theorem sc_merged : FnScope N_merged ["one", "first", "second"] (defScope s_merged) := ⟨rfl, rfl, rfl, by decide +kernel, rfl, by decide +kernel, by decide +kernel⟩
theorem ok_merged {P : Program} {w : World} {K : PySem.W.Frag} {mg : Str → Option Value} {base : Heap} {A : Nat → Addr} (D_ : Df K mg "merged" s_merged) (T : Tx K mg A) (C_marked : Cal P w K mg base A 1 "marked" ["names"] F_marked) : Cal P w K mg base A 2 "merged" ["one", "first", "second"] F_merged :=
  df_cal (N := N_merged) D_ sc_merged (fun _ _ _ _ _ _ us hl => match us, hl with | [_, _, _], _ => rfl) fun f cdv A0 outer s H E ds hr => (show SB _ _ _ _ b_merged from (sb_cons (sx_setLc (i := 3) rfl sc_merged.nd rfl rfl (sw_true rfl rfl rfl (by decide +kernel)) (ix_seq' (v_st 0)) (blkOk_by (N := N_merged) (sc := defScope s_merged) (by decide +kernel)) (fun _ _ _ _ _ => pg_name (i := 4) sc_merged.nd rfl (by walk_at "loc")) (fun _ _ _ _ _ => eif_nil) (fun _ _ _ _ _ => (es_x (ex_if (et_cmp (op_eqD hr.units) n_eq k_eq (v_rd 4) (er_x (ex_ix ix_seq n_idx k_idx (v_cn 0) (v_rd 2) (fun _ _ => rfl))) (nomark _)) (ex_ix ix_seq n_idx k_idx (v_cn 0) (v_rd 1) (fun _ _ => rfl)) (ex_s (v_st 4))))))
  (sb_one (sx_ret (c_callR C_marked (hr.mono (by decide)) (takes_of rfl rfl rfl rfl) (ea_cons (v_rd 3) ea_nil))))))
abbrev s_joining : Stmt := topS 26
theorem sc_joining : FnScope N_joining ["one", "other"] (defScope s_joining) := ⟨rfl, rfl, rfl, by decide +kernel, rfl, by decide +kernel, by decide +kernel⟩
theorem ok_joining {P : Program} {w : World} {K : PySem.W.Frag} {mg : Str → Option Value} {base : Heap} {A : Nat → Addr} (D_ : Df K mg "joining" s_joining) (T : Tx K mg A) (C_askBoth : Cal P w K mg base A 3 "ask_both" ["one", "other"] F_askBoth) (C_sharesBy : Cal P w K mg base A 1 "shares_by" ["one"] F_sharesBy) (C_merged : Cal P w K mg base A 2 "merged" ["one", "first", "second"] F_merged) : Cal P w K mg base A 4 "joining" ["one", "other"] F_joining :=
  df_cal (N := N_joining) D_ sc_joining (fun _ _ _ _ _ _ us hl => match us, hl with | [_, _], _ => rfl) fun f cdv A0 outer s H E ds hr => (show SB _ _ _ _ b_joining from (sb_cons (sx_drop (c_callR C_askBoth (hr.mono (by decide)) (takes_of rfl rfl rfl rfl) (ea_cons (v_rd 0) (ea_cons (v_rd 1) ea_nil))))
  (sb_cons (sx_set (i := 2) sc_joining.nd rfl (by walk_at "loc") (ex_callTy call_list_of n_list k_list rfl T.n_list boot_list (ea_cons (v_cn 0) ea_nil)))
  (sb_cons (sx_for (j := 3) (passes_of rfl) rfl (ix_seq' (es_x (c_call C_sharesBy (hr.mono (by decide)) (takes_of rfl rfl rfl rfl) (ea_cons (v_st 1) ea_nil)))) sc_joining.nd rfl (by walk_at "loc") (sb_one (sx_for (j := 4) (passes_of rfl) rfl (ix_seq' (v_st 3)) sc_joining.nd rfl (by walk_at "loc") (sb_one (sx_set (i := 2) sc_joining.nd rfl (by walk_at "loc") (c_callR C_merged (hr.mono (by decide)) (takes_of rfl rfl rfl rfl) (ea_cons (v_rd 2) (ea_cons (er_x (ex_ix ix_seq n_idx k_idx (v_cn 3) (er_k e_int) (fun _ _ => rfl))) (ea_cons (v_rd 4) ea_nil)))))))))
  (sb_one (sx_retV (i := 2) rfl (by walk_at "vis")))))))
abbrev s_askFiner : Stmt := topS 27
theorem sc_askFiner : FnScope N_askFiner ["one", "other"] (defScope s_askFiner) := ⟨rfl, rfl, rfl, by decide +kernel, rfl, by decide +kernel, by decide +kernel⟩
theorem ok_askFiner {P : Program} {w : World} {K : PySem.W.Frag} {mg : Str → Option Value} {base : Heap} {A : Nat → Addr} (D_ : Df K mg "ask_finer" s_askFiner) (T : Tx K mg A) (C_askBoth : Cal P w K mg base A 3 "ask_both" ["one", "other"] F_askBoth) (C_finerBy : Cal P w K mg base A 1 "finer_by" ["one", "other"] F_finerBy) : Cal P w K mg base A 4 "ask_finer" ["one", "other"] F_askFiner :=
  df_cal (N := N_askFiner) D_ sc_askFiner (fun _ _ _ _ _ _ us hl => match us, hl with | [_, _], _ => rfl) fun f cdv A0 outer s H E ds hr => (show SB _ _ _ _ b_askFiner from (sb_cons (sx_drop (c_callR C_askBoth (hr.mono (by decide)) (takes_of rfl rfl rfl rfl) (ea_cons (v_rd 0) (ea_cons (v_rd 1) ea_nil))))
  (sb_one (sx_if (et_not (et_val (c_callR C_finerBy (hr.mono (by decide)) (takes_of rfl rfl rfl rfl) (ea_cons (v_rd 0) (ea_cons (v_rd 1) ea_nil))))) (sb_one (sx_raise rfl (takes_of rfl rfl rfl rfl) T.x_NotFiner)) sb_nil))))
abbrev s_rise : Stmt := topS 28
theorem sc_rise : FnScope N_rise ["one", "other"] (defScope s_rise) := ⟨rfl, rfl, rfl, by decide +kernel, rfl, by decide +kernel, by decide +kernel⟩
theorem ok_rise {P : Program} {w : World} {K : PySem.W.Frag} {mg : Str → Option Value} {base : Heap} {A : Nat → Addr} (D_ : Df K mg "rise" s_rise) (T : Tx K mg A) (C_askFiner : Cal P w K mg base A 4 "ask_finer" ["one", "other"] F_askFiner) (C_sharesBy : Cal P w K mg base A 1 "shares_by" ["one"] F_sharesBy) (C_merged : Cal P w K mg base A 2 "merged" ["one", "first", "second"] F_merged) : Cal P w K mg base A 5 "rise" ["one", "other"] F_rise :=
  df_cal (N := N_rise) D_ sc_rise (fun _ _ _ _ _ _ us hl => match us, hl with | [_, _], _ => rfl) fun f cdv A0 outer s H E ds hr => (show SB _ _ _ _ b_rise from (sb_cons (sx_drop (c_callR C_askFiner (hr.mono (by decide)) (takes_of rfl rfl rfl rfl) (ea_cons (v_rd 0) (ea_cons (v_rd 1) ea_nil))))
  (sb_cons (sx_set (i := 2) sc_rise.nd rfl (by walk_at "loc") (ex_lst2 (ex_callTy call_list_of n_list k_list rfl T.n_list boot_list (ea_cons (v_cn 0) ea_nil))))
  (sb_cons (sx_for (j := 3) (passes_of rfl) rfl (ix_seq' (es_x (c_call C_sharesBy (hr.mono (by decide)) (takes_of rfl rfl rfl rfl) (ea_cons (v_st 1) ea_nil)))) sc_rise.nd rfl (by walk_at "loc") (sb_one (sx_for (j := 4) (passes_of rfl) rfl (ix_seq' (v_st 3)) sc_rise.nd rfl (by walk_at "loc") (sb_one (sx_if (et_cmp (op_neD hr.units) n_ne k_ne (er_ix (er_ix (v_rd 2) (er_x (ex_un un_neg n_neg k_neg (er_k e_int))) (fun _ _ => rfl)) (v_rd 4) (fun _ _ => rfl)) (er_ix (er_ix (v_rd 2) (er_x (ex_un un_neg n_neg k_neg (er_k e_int))) (fun _ _ => rfl)) (er_x (ex_ix ix_seq n_idx k_idx (v_cn 3) (er_k e_int) (fun _ _ => rfl))) (fun _ _ => rfl)) (nomark _)) (sb_one (sx_app2 (i := 2) rfl (by walk_at "vis") (c_callR C_merged (hr.mono (by decide)) (takes_of rfl rfl rfl rfl) (ea_cons (er_ix (v_rd 2) (er_x (ex_un un_neg n_neg k_neg (er_k e_int))) (fun _ _ => rfl)) (ea_cons (er_x (ex_ix ix_seq n_idx k_idx (v_cn 3) (er_k e_int) (fun _ _ => rfl))) (ea_cons (v_rd 4) ea_nil)))))) sb_nil)))))
  (sb_one (sx_retV (i := 2) rfl (by walk_at "vis")))))))
abbrev s_parts : Stmt := topS 29
theorem sc_parts : FnScope N_parts ["one", "other"] (defScope s_parts) := ⟨rfl, rfl, rfl, by decide +kernel, rfl, by decide +kernel, by decide +kernel⟩
theorem ok_parts {P : Program} {w : World} {K : PySem.W.Frag} {mg : Str → Option Value} {base : Heap} {A : Nat → Addr} (D_ : Df K mg "parts" s_parts) (T : Tx K mg A) (C_sharesBy : Cal P w K mg base A 1 "shares_by" ["one"] F_sharesBy) : Cal P w K mg base A 2 "parts" ["one", "other"] F_parts :=
  df_cal (N := N_parts) D_ sc_parts (fun _ _ _ _ _ _ us hl => match us, hl with | [_, _], _ => rfl) fun f cdv A0 outer s H E ds hr => (show SB _ _ _ _ b_parts from (sb_one (sx_ret (ex_comp rfl sc_parts.nd (ix_seq' (es_x (c_call C_sharesBy (hr.mono (by decide)) (takes_of rfl rfl rfl rfl) (ea_cons (v_st 1) ea_nil)))) (blkOk_by (N := N_parts) (sc := defScope s_parts) (by decide +kernel)) (fun _ _ _ _ _ => pg_name (i := 3) sc_parts.nd rfl (by walk_at "loc")) (fun _ _ _ _ _ => eif_nil) (fun _ _ _ _ _ => (es_x (ex_lenSet rfl T.n_len rfl T.n_set (er_x (ex_comp rfl sc_parts.nd (ix_seq' (v_st 3)) (blkOk_by (N := N_parts) (sc := _) (by kernel_rfl)) (fun _ _ _ _ _ => pg_name (i := 2) sc_parts.nd rfl (by walk_at "loc")) (fun _ _ _ _ _ => eif_nil) (fun _ _ _ _ _ => (es_x (ex_ix ix_seq n_idx k_idx (v_cn 0) (v_rd 2) (fun _ _ => rfl)))))))))))))
abbrev s_productTo : Stmt := topS 30
theorem sc_productTo : FnScope N_productTo ["number"] (defScope s_productTo) := ⟨rfl, rfl, rfl, by decide +kernel, rfl, by decide +kernel, by decide +kernel⟩
theorem ok_productTo {P : Program} {w : World} {K : PySem.W.Frag} {mg : Str → Option Value} {base : Heap} {A : Nat → Addr} (D_ : Df K mg "product_to" s_productTo) (T : Tx K mg A)  : Cal P w K mg base A 1 "product_to" ["number"] F_productTo :=
  df_cal (N := N_productTo) D_ sc_productTo (fun _ _ _ _ _ _ us hl => match us, hl with | [_], _ => rfl) fun f cdv A0 outer s H E ds hr => (show SB _ _ _ _ b_productTo from (sb_cons (sx_set (i := 1) sc_productTo.nd rfl (by walk_at "loc") (ex_s e_int))
  (sb_cons (sx_for (j := 2) (passes_of rfl) rfl (ix_range2 rfl T.n_range (ea_cons (er_k e_int) (ea_cons (er_x (ex_op op_addU n_add k_add (v_cn 0) (ec_s e_int))) ea_nil))) sc_productTo.nd rfl (by walk_at "loc") (sb_one (sx_set (i := 1) sc_productTo.nd rfl (by walk_at "loc") (ex_op op_mulU n_mul k_mul (v_cn 1) (v_rd 2)))))
  (sb_one (sx_retV (i := 1) rfl (by walk_at "vis"))))))
abbrev s_manyRises : Stmt := topS 31
theorem sc_manyRises : FnScope N_manyRises ["one", "other"] (defScope s_manyRises) := ⟨rfl, rfl, rfl, by decide +kernel, rfl, by decide +kernel, by decide +kernel⟩
theorem ok_manyRises {P : Program} {w : World} {K : PySem.W.Frag} {mg : Str → Option Value} {base : Heap} {A : Nat → Addr} (D_ : Df K mg "many_rises" s_manyRises) (T : Tx K mg A) (C_askFiner : Cal P w K mg base A 4 "ask_finer" ["one", "other"] F_askFiner) (C_parts : Cal P w K mg base A 2 "parts" ["one", "other"] F_parts) (C_productTo : Cal P w K mg base A 1 "product_to" ["number"] F_productTo) : Cal P w K mg base A 5 "many_rises" ["one", "other"] F_manyRises :=
  df_cal (N := N_manyRises) D_ sc_manyRises (fun _ _ _ _ _ _ us hl => match us, hl with | [_, _], _ => rfl) fun f cdv A0 outer s H E ds hr => (show SB _ _ _ _ b_manyRises from (sb_cons (sx_drop (c_callR C_askFiner (hr.mono (by decide)) (takes_of rfl rfl rfl rfl) (ea_cons (v_rd 0) (ea_cons (v_rd 1) ea_nil))))
  (sb_cons (sx_set (i := 2) sc_manyRises.nd rfl (by walk_at "loc") (c_callR C_parts (hr.mono (by decide)) (takes_of rfl rfl rfl rfl) (ea_cons (v_rd 0) (ea_cons (v_rd 1) ea_nil))))
  (sb_cons (sx_set (i := 3) sc_manyRises.nd rfl (by walk_at "loc") (ex_op op_sub n_sub k_sub (er_x (ex_callB (cr_sum rfl) n_sum k_sum rfl T.n_sum (by decide +kernel) (ea_cons (v_rd 2) ea_nil))) (er_x (ex_callB call_lenU n_len k_len rfl T.n_len PySem.boot_len (ea_cons (v_rd 2) ea_nil)))))
  (sb_cons (sx_set (i := 4) sc_manyRises.nd rfl (by walk_at "loc") (c_callR C_productTo (hr.mono (by decide)) (takes_of rfl rfl rfl rfl) (ea_cons (v_rd 3) ea_nil)))
  (sb_cons (sx_frz 2 (sx_for (j := 5) (passes_of rfl) rfl (ix_seq' (v_st 2)) sc_manyRises.nd rfl (by walk_at "loc") (sb_one (sx_set (i := 4) sc_manyRises.nd rfl (by walk_at "loc") (ex_op op_mulU n_mul k_mul (v_cn 4) (er_x (c_callR C_productTo (hr.mono (by decide)) (takes_of rfl rfl rfl rfl) (ea_cons (v_rd 5) ea_nil))))))))
  (sb_cons (sx_for (j := 6) (passes_of rfl) rfl (ix_range1 rfl T.n_range (ea_cons (v_rd 3) ea_nil)) sc_manyRises.nd rfl (by walk_at "loc") (sb_one (sx_set (i := 4) sc_manyRises.nd rfl (by walk_at "loc") (ex_op op_fdiv n_div k_div (v_rd 4) (er_k e_int)))))
  (sb_one (sx_retV (i := 4) rfl (by walk_at "vis"))))))))))
abbrev s_signed : Stmt := topS 32
theorem sc_signed : FnScope N_signed ["one", "other"] (defScope s_signed) := ⟨rfl, rfl, rfl, by decide +kernel, rfl, by decide +kernel, by decide +kernel⟩
theorem ok_signed {P : Program} {w : World} {K : PySem.W.Frag} {mg : Str → Option Value} {base : Heap} {A : Nat → Addr} (D_ : Df K mg "signed" s_signed) (T : Tx K mg A) (C_askFiner : Cal P w K mg base A 4 "ask_finer" ["one", "other"] F_askFiner) (C_parts : Cal P w K mg base A 2 "parts" ["one", "other"] F_parts) (C_productTo : Cal P w K mg base A 1 "product_to" ["number"] F_productTo) : Cal P w K mg base A 5 "signed" ["one", "other"] F_signed :=
  df_cal (N := N_signed) D_ sc_signed (fun _ _ _ _ _ _ us hl => match us, hl with | [_, _], _ => rfl) fun f cdv A0 outer s H E ds hr => (show SB _ _ _ _ b_signed from (sb_cons (sx_drop (c_callR C_askFiner (hr.mono (by decide)) (takes_of rfl rfl rfl rfl) (ea_cons (v_rd 0) (ea_cons (v_rd 1) ea_nil))))
  (sb_cons (sx_set (i := 2) sc_signed.nd rfl (by walk_at "loc") (ex_s e_int))
  (sb_cons (sx_for (j := 3) (passes_of rfl) rfl (ix_seq' (es_x (c_callR C_parts (hr.mono (by decide)) (takes_of rfl rfl rfl rfl) (ea_cons (v_rd 0) (ea_cons (v_rd 1) ea_nil))))) sc_signed.nd rfl (by walk_at "loc") (sb_cons (sx_set (i := 2) sc_signed.nd rfl (by walk_at "loc") (ex_op op_mulU n_mul k_mul (v_cn 2) (er_x (c_callR C_productTo (hr.mono (by decide)) (takes_of rfl rfl rfl rfl) (ea_cons (er_x (ex_op op_sub n_sub k_sub (v_rd 3) (er_k e_int))) ea_nil)))))
  (sb_one (sx_if (et_cmp (op_eqD hr.units) n_eq k_eq (er_x (ex_op op_mod n_mod k_mod (v_rd 3) (er_k e_int))) (er_k e_int) (nomark _)) (sb_one (sx_set (i := 2) sc_signed.nd rfl (by walk_at "loc") (ex_un un_neg n_neg k_neg (v_rd 2)))) sb_nil))))
  (sb_one (sx_retV (i := 2) rfl (by walk_at "vis")))))))
abbrev s_shown : Stmt := topS 35
theorem sc_shown : FnScope N_shown ["one"] (defScope s_shown) := ⟨rfl, rfl, rfl, by decide +kernel, rfl, by decide +kernel, by decide +kernel⟩
theorem ok_shown {P : Program} {w : World} {K : PySem.W.Frag} {mg : Str → Option Value} {base : Heap} {A : Nat → Addr} (D_ : Df K mg "shown" s_shown) (T : Tx K mg A) (C_ask : Cal P w K mg base A 2 "ask" ["one"] F_ask) (C_sharesBy : Cal P w K mg base A 1 "shares_by" ["one"] F_sharesBy) : Cal P w K mg base A 3 "shown" ["one"] F_shown :=
  df_cal (N := N_shown) D_ sc_shown (fun _ _ _ _ _ _ us hl => match us, hl with | [_], _ => rfl) fun f cdv A0 outer s H E ds hr => (show SB _ _ _ _ b_shown from (sb_cons (sx_drop (c_callR C_ask (hr.mono (by decide)) (takes_of rfl rfl rfl rfl) (ea_cons (v_rd 0) ea_nil)))
  (sb_one (sx_ret (ex_m_join (er_k e_str) (er_x (ex_comp rfl sc_shown.nd (ix_seq' (es_x (c_call C_sharesBy (hr.mono (by decide)) (takes_of rfl rfl rfl rfl) (ea_cons (v_st 0) ea_nil)))) (blkOk_by (N := N_shown) (sc := defScope s_shown) (by decide +kernel)) (fun _ _ _ _ _ => pg_name (i := 2) sc_shown.nd rfl (by walk_at "loc")) (fun _ _ _ _ _ => eif_nil) (fun _ _ _ _ _ => (es_x (ex_m_join (er_k e_str) (er_x (ex_comp rfl sc_shown.nd (ix_seq' (v_st 2)) (blkOk_by (N := N_shown) (sc := _) (by kernel_rfl)) (fun _ _ _ _ _ => pg_name (i := 1) sc_shown.nd rfl (by walk_at "loc")) (fun _ _ _ _ _ => eif_nil) (fun _ _ _ _ _ => (es_x (ex_callTy call_str_int n_strI k_strI rfl T.n_str boot_str (ea_cons (v_rd 1) ea_nil))))))))))))))))
abbrev s_thingOf : Stmt := topS 36
theorem sc_thingOf : FnScope N_thingOf ["word"] (defScope s_thingOf) := ⟨rfl, rfl, rfl, by decide +kernel, rfl, by decide +kernel, by decide +kernel⟩
theorem ok_thingOf {P : Program} {w : World} {K : PySem.W.Frag} {mg : Str → Option Value} {base : Heap} {A : Nat → Addr} (D_ : Df K mg "thing_of" s_thingOf) (T : Tx K mg A)  : Cal P w K mg base A 1 "thing_of" ["word"] F_thingOf :=
  df_cal (N := N_thingOf) D_ sc_thingOf (fun _ _ _ _ _ _ us hl => match us, hl with | [_], _ => rfl) fun f cdv A0 outer s H E ds hr => (show SB _ _ _ _ b_thingOf from (sb_cons (sx_if (et_w (ew_or (et_not (et_chain op_le n_le k_le op_le n_le k_le (er_k e_int) (er_x (ex_callB call_lenU n_len k_len rfl T.n_len PySem.boot_len (ea_cons (v_rd 0) ea_nil))) (er_k e_int))) (ew_or1 (et_w (ew_and (et_cmp (op_eqD hr.units) n_eq k_eq (er_x (ex_callB call_lenU n_len k_len rfl T.n_len PySem.boot_len (ea_cons (v_rd 0) ea_nil))) (er_k e_int) (nomark _)) (ew_and1 (et_cmp (op_eqD hr.units) n_eq k_eq (er_x (ex_ix ix_seq n_idx k_idx (v_cn 0) (er_k e_int) (fun _ _ => rfl))) (er_k e_str) (nomark _)))))))) (sb_one (sx_raise rfl (takes_of rfl rfl rfl rfl) T.x_NotRead)) sb_nil)
  (sb_cons (sx_for (j := 1) (passes_of rfl) rfl (ix_seq' (v_st 0)) sc_thingOf.nd rfl (by walk_at "loc") (sb_one (sx_if (et_cmp (op_notInU (hu65 hr)) n_notin k_notin (v_rd 1) (er_k (e_globS rfl T.g_FIGURES.choose_spec)) rfl) (sb_one (sx_raise rfl (takes_of rfl rfl rfl rfl) T.x_NotRead)) sb_nil)))
  (sb_one (sx_ret (ex_callTy call_int_str n_intS k_intS rfl T.n_int boot_int (ea_cons (v_rd 0) ea_nil)))))))
abbrev s_read : Stmt := topS 37
theorem sc_read : FnScope N_read ["text"] (defScope s_read) := ⟨rfl, rfl, rfl, by decide +kernel, rfl, by decide +kernel, by decide +kernel⟩
theorem ok_read {P : Program} {w : World} {K : PySem.W.Frag} {mg : Str → Option Value} {base : Heap} {A : Nat → Addr} (D_ : Df K mg "read" s_read) (T : Tx K mg A) (C_thingOf : Cal P w K mg base A 1 "thing_of" ["word"] F_thingOf) (CN_marksOf : CalN P w K mg base A 2 "marks_of" ["shares"] F_marksOf) (C_shown : Cal P w K mg base A 3 "shown" ["one"] F_shown) : Cal P w K mg base A 4 "read" ["text"] F_read :=
  df_cal (N := N_read) D_ sc_read (fun _ _ _ _ _ _ us hl => match us, hl with | [_], _ => rfl) fun f cdv A0 outer s H E ds hr => (show SB _ _ _ _ b_read from (sb_cons (sx_set (i := 1) sc_read.nd rfl (by walk_at "loc") (ex_lst ea_nil))
  (sb_cons (sx_for (j := 2) (passes_of rfl) rfl (ix_seq' (es_x (ex_m_split (v_rd 0) (er_k e_str)))) sc_read.nd rfl (by walk_at "loc") (sb_one (sx_app (i := 1) rfl (by walk_at "vis") (es_x (ex_compE rfl rfl (takes_of rfl rfl rfl rfl) rfl sc_read.nd (ix_seq' (es_x (ex_m_split (v_rd 2) (er_k e_str)))) (blkOk_by (N := N_read) (sc := defScope s_read) (by decide +kernel)) (fun _ _ _ _ _ => pg_name (i := 3) sc_read.nd rfl (by walk_at "loc")) (fun W_ _ _ _ _ _ hx_ => (es_x (c_callRX C_thingOf (hr.mono (by decide)) hx_ (ea_cons (v_rd 3) ea_nil)))))))))
  (sb_cons (sx_tryX rfl rfl (L2H.passesAt_of rfl) (takes_of rfl rfl rfl rfl) T.x_NoShares T.x_NotRead T.em_NoShares (fun W_ pn_ xe_ tk_ => (sb_one (sx_set (i := 4) sc_read.nd rfl (by walk_at "loc") (c_callRN CN_marksOf (hr.mono (by decide)) tk_ (ea_cons (v_rd 1) ea_nil))))))
  (sb_cons (sx_if (et_cmp (op_neD hr.units) n_ne k_ne (er_x (c_callR C_shown (hr.mono (by decide)) (takes_of rfl rfl rfl rfl) (ea_cons (v_rd 4) ea_nil))) (v_rd 0) (nomark _)) (sb_one (sx_raise rfl (takes_of rfl rfl rfl rfl) T.x_NotRead)) sb_nil)
  (sb_one (sx_retV (i := 4) rfl (by walk_at "vis"))))))))
abbrev s_askThings : Stmt := topS 39
theorem sc_askThings : FnScope N_askThings ["things"] (defScope s_askThings) := ⟨rfl, rfl, rfl, by decide +kernel, rfl, by decide +kernel, by decide +kernel⟩
theorem ok_askThings {P : Program} {w : World} {K : PySem.W.Frag} {mg : Str → Option Value} {base : Heap} {A : Nat → Addr} (D_ : Df K mg "ask_things" s_askThings) (T : Tx K mg A)  : Cal P w K mg base A 1 "ask_things" ["things"] F_askThings :=
  df_cal (N := N_askThings) D_ sc_askThings (fun _ _ _ _ _ _ us hl => match us, hl with | [_], _ => rfl) fun f cdv A0 outer s H E ds hr => (show SB _ _ _ _ b_askThings from (sb_one (sx_if (et_not (et_chain op_le n_le k_le op_le n_le k_le (er_k e_int) (v_rd 0) (er_k (e_globI rfl T.g_MOST.choose_spec)))) (sb_one (sx_raise rfl (takes_of rfl rfl rfl rfl) T.x_NoThings)) sb_nil)))
abbrev s_restCounts : Stmt := topS 40
theorem sc_restCounts : FnScope N_restCounts ["things"] (defScope s_restCounts) := ⟨rfl, rfl, rfl, by decide +kernel, rfl, by decide +kernel, by decide +kernel⟩
theorem ok_restCounts {P : Program} {w : World} {K : PySem.W.Frag} {mg : Str → Option Value} {base : Heap} {A : Nat → Addr} (D_ : Df K mg "rest_counts" s_restCounts) (T : Tx K mg A)  : Cal P w K mg base A 1 "rest_counts" ["things"] F_restCounts :=
  df_cal (N := N_restCounts) D_ sc_restCounts (fun _ _ _ _ _ _ us hl => match us, hl with | [_], _ => rfl) fun f cdv A0 outer s H E ds hr => (show SB _ _ _ _ b_restCounts from (sb_cons (sx_set (i := 1) sc_restCounts.nd rfl (by walk_at "loc") (ex_lst (ea_cons (es_x (ex_op op_mulU n_mul k_mul (ec_x (ex_lst (ea_cons e_int ea_nil))) (er_x (ex_op op_addU n_add k_add (v_cn 0) (ec_s e_int))))) ea_nil)))
  (sb_cons (sx_for (j := 2) (passes_of rfl) rfl (ix_range2 rfl T.n_range (ea_cons (er_k e_int) (ea_cons (er_x (ex_op op_addU n_add k_add (v_cn 0) (ec_s e_int))) ea_nil))) sc_restCounts.nd rfl (by walk_at "loc") (sb_cons (sx_set (i := 3) sc_restCounts.nd rfl (by walk_at "loc") (ex_lst ea_nil))
  (sb_cons (sx_for (j := 4) (passes_of rfl) rfl (ix_range1 rfl T.n_range (ea_cons (er_x (ex_op op_addU n_add k_add (ec_x (ex_op op_sub n_sub k_sub (er_x (ex_op op_addU n_add k_add (v_cn 0) (ec_s e_int))) (v_rd 2))) (ec_s e_int))) ea_nil)) sc_restCounts.nd rfl (by walk_at "loc") (sb_one (sx_app (i := 3) rfl (by walk_at "vis") (es_x (ex_op op_addU n_add k_add (ec_x (ex_op op_mulU n_mul k_mul (v_cn 4) (er_x (ex_ix ix_seq n_idx k_idx (ec_x (ex_ix ix_seq n_idx k_idx (v_cn 1) (er_x (ex_un un_neg n_neg k_neg (er_k e_int))) (fun _ _ => rfl))) (v_rd 4) (fun _ _ => rfl))))) (ec_x (ex_ix ix_seq n_idx k_idx (ec_x (ex_ix ix_seq n_idx k_idx (v_cn 1) (er_x (ex_un un_neg n_neg k_neg (er_k e_int))) (fun _ _ => rfl))) (er_x (ex_op op_addU n_add k_add (v_cn 4) (ec_s e_int))) (fun _ _ => rfl))))))))
  (sb_one (sx_frz 3 (sx_app (i := 1) rfl (by walk_at "vis") (v_st 3)))))))
  (sb_one (sx_retV (i := 1) rfl (by walk_at "vis"))))))
abbrev s_many : Stmt := topS 41
theorem sc_many : FnScope N_many ["things"] (defScope s_many) := ⟨rfl, rfl, rfl, by decide +kernel, rfl, by decide +kernel, by decide +kernel⟩
theorem ok_many {P : Program} {w : World} {K : PySem.W.Frag} {mg : Str → Option Value} {base : Heap} {A : Nat → Addr} (D_ : Df K mg "many" s_many) (T : Tx K mg A) (C_askThings : Cal P w K mg base A 1 "ask_things" ["things"] F_askThings) (C_restCounts : Cal P w K mg base A 1 "rest_counts" ["things"] F_restCounts) : Cal P w K mg base A 2 "many" ["things"] F_many :=
  df_cal (N := N_many) D_ sc_many (fun _ _ _ _ _ _ us hl => match us, hl with | [_], _ => rfl) fun f cdv A0 outer s H E ds hr => (show SB _ _ _ _ b_many from (sb_cons (sx_drop (c_callR C_askThings (hr.mono (by decide)) (takes_of rfl rfl rfl rfl) (ea_cons (v_rd 0) ea_nil)))
  (sb_one (sx_ret (ex_ix ix_seq n_idx k_idx (ec_x (ex_ix ix_seq n_idx k_idx (ec_x (c_call C_restCounts (hr.mono (by decide)) (takes_of rfl rfl rfl rfl) (ea_cons (v_st 0) ea_nil))) (v_rd 0) (fun _ _ => rfl))) (er_k e_int) (fun _ _ => rfl))))))
abbrev s_manyWith : Stmt := topS 42
theorem sc_manyWith : FnScope N_manyWith ["things", "shares"] (defScope s_manyWith) := ⟨rfl, rfl, rfl, by decide +kernel, rfl, by decide +kernel, by decide +kernel⟩
theorem ok_manyWith {P : Program} {w : World} {K : PySem.W.Frag} {mg : Str → Option Value} {base : Heap} {A : Nat → Addr} (D_ : Df K mg "many_with" s_manyWith) (T : Tx K mg A) (C_askThings : Cal P w K mg base A 1 "ask_things" ["things"] F_askThings) : Cal P w K mg base A 2 "many_with" ["things", "shares"] F_manyWith :=
  df_cal (N := N_manyWith) D_ sc_manyWith (fun _ _ _ _ _ _ us hl => match us, hl with | [_, _], _ => rfl) fun f cdv A0 outer s H E ds hr => (show SB _ _ _ _ b_manyWith from (sb_cons (sx_drop (c_callR C_askThings (hr.mono (by decide)) (takes_of rfl rfl rfl rfl) (ea_cons (v_rd 0) ea_nil)))
  (sb_cons (sx_if (et_not (et_chain op_le n_le k_le op_le n_le k_le (er_k e_int) (v_rd 1) (er_k (e_globI rfl T.g_MOST.choose_spec)))) (sb_one (sx_raise rfl (takes_of rfl rfl rfl rfl) T.x_NoNumber)) sb_nil)
  (sb_cons (sx_set (i := 2) sc_manyWith.nd rfl (by walk_at "loc") (ex_op op_addU n_add k_add (ec_x (ex_lst (ea_cons e_int ea_nil))) (ec_x (ex_op op_mulU n_mul k_mul (ec_x (ex_lst (ea_cons e_int ea_nil))) (er_k (e_globI rfl T.g_MOST.choose_spec))))))
  (sb_cons (sx_for (j := 3) (passes_of rfl) rfl (ix_range1 rfl T.n_range (ea_cons (v_rd 0) ea_nil)) sc_manyWith.nd rfl (by walk_at "loc") (sb_one (sx_set (i := 2) sc_manyWith.nd rfl (by walk_at "loc") (ex_op op_addU n_add k_add (ec_x (ex_lst (ea_cons e_int ea_nil))) (ec_x (ex_comp rfl sc_manyWith.nd (ix_range2 rfl T.n_range (ea_cons (er_k e_int) (ea_cons (er_x (ex_op op_addU n_add k_add (ec_s (e_globI rfl T.g_MOST.choose_spec)) (ec_s e_int))) ea_nil))) (blkOk_by (N := N_manyWith) (sc := defScope s_manyWith) (by decide +kernel)) (fun _ _ _ _ _ => pg_name (i := 4) sc_manyWith.nd rfl (by walk_at "loc")) (fun _ _ _ _ _ => eif_nil) (fun _ _ _ _ _ => (es_x (ex_op op_addU n_add k_add (ec_x (ex_op op_mulU n_mul k_mul (v_cn 4) (er_x (ex_ix ix_seq n_idx k_idx (v_cn 2) (v_rd 4) (fun _ _ => rfl))))) (ec_x (ex_ix ix_seq n_idx k_idx (v_cn 2) (er_x (ex_op op_sub n_sub k_sub (v_rd 4) (er_k e_int))) (fun _ _ => rfl))))))))))))
  (sb_one (sx_ret (ex_ix ix_seq n_idx k_idx (v_cn 2) (v_rd 1) (fun _ _ => rfl)))))))))
abbrev s_sharingAt : Stmt := topS 43
theorem sc_sharingAt : FnScope N_sharingAt ["things", "number"] (defScope s_sharingAt) := ⟨rfl, rfl, rfl, by decide +kernel, rfl, by decide +kernel, by decide +kernel⟩
theorem ok_sharingAt {P : Program} {w : World} {K : PySem.W.Frag} {mg : Str → Option Value} {base : Heap} {A : Nat → Addr} (D_ : Df K mg "sharing_at" s_sharingAt) (T : Tx K mg A) (C_askThings : Cal P w K mg base A 1 "ask_things" ["things"] F_askThings) (C_many : Cal P w K mg base A 2 "many" ["things"] F_many) (C_restCounts : Cal P w K mg base A 1 "rest_counts" ["things"] F_restCounts) : Cal P w K mg base A 3 "sharing_at" ["things", "number"] F_sharingAt :=
  df_cal (N := N_sharingAt) D_ sc_sharingAt (fun _ _ _ _ _ _ us hl => match us, hl with | [_, _], _ => rfl) fun f cdv A0 outer s H E ds hr => (show SB _ _ _ _ b_sharingAt from (sb_cons (sx_drop (c_callR C_askThings (hr.mono (by decide)) (takes_of rfl rfl rfl rfl) (ea_cons (v_rd 0) ea_nil)))
  (sb_cons (sx_if (et_not (et_chain op_le n_le k_le op_lt n_lt k_lt (er_k e_int) (v_rd 1) (er_x (c_callR C_many (hr.mono (by decide)) (takes_of rfl rfl rfl rfl) (ea_cons (v_rd 0) ea_nil))))) (sb_one (sx_raise rfl (takes_of rfl rfl rfl rfl) T.x_NoNumber)) sb_nil)
  (sb_cons (sx_set (i := 2) sc_sharingAt.nd rfl (by walk_at "loc") (c_call C_restCounts (hr.mono (by decide)) (takes_of rfl rfl rfl rfl) (ea_cons (v_st 0) ea_nil)))
  (sb_cons (sx_set (i := 3) sc_sharingAt.nd rfl (by walk_at "loc") (ex_lst ea_nil))
  (sb_cons (sx_set (i := 4) sc_sharingAt.nd rfl (by walk_at "loc") (ex_s e_int))
  (sb_cons (sx_for (j := 5) (passes_of rfl) rfl (ix_range1 rfl T.n_range (ea_cons (v_rd 0) ea_nil)) sc_sharingAt.nd rfl (by walk_at "loc") (sb_cons (sx_set (i := 6) sc_sharingAt.nd rfl (by walk_at "loc") (ex_ix ix_seq n_idx k_idx (ec_x (ex_ix ix_seq n_idx k_idx (v_cn 2) (er_x (ex_op op_sub n_sub k_sub (er_x (ex_op op_sub n_sub k_sub (v_rd 0) (v_rd 5))) (er_k e_int))) (fun _ _ => rfl))) (v_rd 4) (fun _ _ => rfl)))
  (sb_cons (sx_set (i := 7) sc_sharingAt.nd rfl (by walk_at "loc") (ex_callB (call_min2 rfl) n_min2 k_min2 rfl T.n_min (by decide +kernel) (ea_cons (v_rd 4) (ea_cons (er_x (ex_op op_fdiv n_div k_div (v_rd 1) (v_rd 6))) ea_nil))))
  (sb_cons (sx_set (i := 1) sc_sharingAt.nd rfl (by walk_at "loc") (ex_op op_sub n_sub k_sub (v_rd 1) (er_x (ex_op op_mulU n_mul k_mul (v_cn 7) (v_rd 6)))))
  (sb_cons (sx_app (i := 3) rfl (by walk_at "vis") (v_st 7))
  (sb_one (sx_set (i := 4) sc_sharingAt.nd rfl (by walk_at "loc") (ex_callB (call_max2 rfl) n_max2 k_max2 rfl T.n_max (by decide +kernel) (ea_cons (v_rd 4) (ea_cons (er_x (ex_op op_addU n_add k_add (v_cn 7) (ec_s e_int))) ea_nil))))))))))
  (sb_one (sx_retV (i := 3) rfl (by walk_at "vis"))))))))))
abbrev s_numberOf : Stmt := topS 44
theorem sc_numberOf : FnScope N_numberOf ["one"] (defScope s_numberOf) := ⟨rfl, rfl, rfl, by decide +kernel, rfl, by decide +kernel, by decide +kernel⟩
theorem ok_numberOf {P : Program} {w : World} {K : PySem.W.Frag} {mg : Str → Option Value} {base : Heap} {A : Nat → Addr} (D_ : Df K mg "number_of" s_numberOf) (T : Tx K mg A) (C_ask : Cal P w K mg base A 2 "ask" ["one"] F_ask) (C_restCounts : Cal P w K mg base A 1 "rest_counts" ["things"] F_restCounts) : Cal P w K mg base A 3 "number_of" ["one"] F_numberOf :=
  df_cal (N := N_numberOf) D_ sc_numberOf (fun _ _ _ _ _ _ us hl => match us, hl with | [_], _ => rfl) fun f cdv A0 outer s H E ds hr => (show SB _ _ _ _ b_numberOf from (sb_cons (sx_drop (c_callR C_ask (hr.mono (by decide)) (takes_of rfl rfl rfl rfl) (ea_cons (v_rd 0) ea_nil)))
  (sb_cons (sx_set (i := 1) sc_numberOf.nd rfl (by walk_at "loc") (c_call C_restCounts (hr.mono (by decide)) (takes_of rfl rfl rfl rfl) (ea_cons (es_x (ex_callB call_lenU n_len k_len rfl T.n_len PySem.boot_len (ea_cons (v_rd 0) ea_nil))) ea_nil)))
  (sb_cons (sx_set (i := 2) sc_numberOf.nd rfl (by walk_at "loc") (ex_s e_int))
  (sb_cons (sx_set (i := 3) sc_numberOf.nd rfl (by walk_at "loc") (ex_s e_int))
  (sb_cons (sx_for (j := 4) (passes_of rfl) rfl (ix_range1 rfl T.n_range (ea_cons (er_x (ex_callB call_lenU n_len k_len rfl T.n_len PySem.boot_len (ea_cons (v_rd 0) ea_nil))) ea_nil)) sc_numberOf.nd rfl (by walk_at "loc") (sb_cons (sx_set (i := 2) sc_numberOf.nd rfl (by walk_at "loc") (ex_op op_addU n_add k_add (v_cn 2) (ec_x (ex_op op_mulU n_mul k_mul (ec_x (ex_ix ix_seq n_idx k_idx (v_cn 0) (v_rd 4) (fun _ _ => rfl))) (er_x (ex_ix ix_seq n_idx k_idx (ec_x (ex_ix ix_seq n_idx k_idx (v_cn 1) (er_x (ex_op op_sub n_sub k_sub (er_x (ex_op op_sub n_sub k_sub (er_x (ex_callB call_lenU n_len k_len rfl T.n_len PySem.boot_len (ea_cons (v_rd 0) ea_nil))) (v_rd 4))) (er_k e_int))) (fun _ _ => rfl))) (v_rd 3) (fun _ _ => rfl)))))))
  (sb_one (sx_set (i := 3) sc_numberOf.nd rfl (by walk_at "loc") (ex_callB (call_max2 rfl) n_max2 k_max2 rfl T.n_max (by decide +kernel) (ea_cons (v_rd 3) (ea_cons (er_x (ex_op op_addU n_add k_add (ec_x (ex_ix ix_seq n_idx k_idx (v_cn 0) (v_rd 4) (fun _ _ => rfl))) (ec_s e_int))) ea_nil)))))))
  (sb_one (sx_retV (i := 2) rfl (by walk_at "vis")))))))))
abbrev s_manyFiner : Stmt := topS 45
theorem sc_manyFiner : FnScope N_manyFiner ["one"] (defScope s_manyFiner) := ⟨rfl, rfl, rfl, by decide +kernel, rfl, by decide +kernel, by decide +kernel⟩
theorem ok_manyFiner {P : Program} {w : World} {K : PySem.W.Frag} {mg : Str → Option Value} {base : Heap} {A : Nat → Addr} (D_ : Df K mg "many_finer" s_manyFiner) (T : Tx K mg A) (C_ask : Cal P w K mg base A 2 "ask" ["one"] F_ask) (C_sharesBy : Cal P w K mg base A 1 "shares_by" ["one"] F_sharesBy) (C_many : Cal P w K mg base A 2 "many" ["things"] F_many) : Cal P w K mg base A 3 "many_finer" ["one"] F_manyFiner :=
  df_cal (N := N_manyFiner) D_ sc_manyFiner (fun _ _ _ _ _ _ us hl => match us, hl with | [_], _ => rfl) fun f cdv A0 outer s H E ds hr => (show SB _ _ _ _ b_manyFiner from (sb_cons (sx_drop (c_callR C_ask (hr.mono (by decide)) (takes_of rfl rfl rfl rfl) (ea_cons (v_rd 0) ea_nil)))
  (sb_cons (sx_set (i := 1) sc_manyFiner.nd rfl (by walk_at "loc") (ex_s e_int))
  (sb_cons (sx_for (j := 2) (passes_of rfl) rfl (ix_seq' (es_x (c_call C_sharesBy (hr.mono (by decide)) (takes_of rfl rfl rfl rfl) (ea_cons (v_st 0) ea_nil)))) sc_manyFiner.nd rfl (by walk_at "loc") (sb_one (sx_set (i := 1) sc_manyFiner.nd rfl (by walk_at "loc") (ex_op op_mulU n_mul k_mul (v_cn 1) (er_x (c_callR C_many (hr.mono (by decide)) (takes_of rfl rfl rfl rfl) (ea_cons (er_x (ex_callB call_lenU n_len k_len rfl T.n_len PySem.boot_len (ea_cons (v_rd 2) ea_nil))) ea_nil)))))))
  (sb_one (sx_retV (i := 1) rfl (by walk_at "vis")))))))
abbrev s_manyCoarser : Stmt := topS 46
theorem sc_manyCoarser : FnScope N_manyCoarser ["one"] (defScope s_manyCoarser) := ⟨rfl, rfl, rfl, by decide +kernel, rfl, by decide +kernel, by decide +kernel⟩
theorem ok_manyCoarser {P : Program} {w : World} {K : PySem.W.Frag} {mg : Str → Option Value} {base : Heap} {A : Nat → Addr} (D_ : Df K mg "many_coarser" s_manyCoarser) (T : Tx K mg A) (C_ask : Cal P w K mg base A 2 "ask" ["one"] F_ask) (C_many : Cal P w K mg base A 2 "many" ["things"] F_many) : Cal P w K mg base A 3 "many_coarser" ["one"] F_manyCoarser :=
  df_cal (N := N_manyCoarser) D_ sc_manyCoarser (fun _ _ _ _ _ _ us hl => match us, hl with | [_], _ => rfl) fun f cdv A0 outer s H E ds hr => (show SB _ _ _ _ b_manyCoarser from (sb_cons (sx_drop (c_callR C_ask (hr.mono (by decide)) (takes_of rfl rfl rfl rfl) (ea_cons (v_rd 0) ea_nil)))
  (sb_one (sx_ret (c_callR C_many (hr.mono (by decide)) (takes_of rfl rfl rfl rfl) (ea_cons (er_x (ex_op op_addU n_add k_add (ec_x (ex_callB (cr_max rfl) n_max k_max rfl T.n_max (by decide +kernel) (ea_cons (v_rd 0) ea_nil))) (ec_s e_int))) ea_nil))))))
abbrev s_askPairs : Stmt := topS 48
theorem sc_askPairs : FnScope N_askPairs ["things", "pairs"] (defScope s_askPairs) := ⟨rfl, rfl, rfl, by decide +kernel, rfl, by decide +kernel, by decide +kernel⟩
theorem ok_askPairs {P : Program} {w : World} {K : PySem.W.Frag} {mg : Str → Option Value} {base : Heap} {A : Nat → Addr} (D_ : Df K mg "ask_pairs" s_askPairs) (T : Tx K mg A)  : Cal P w K mg base A 1 "ask_pairs" ["things", "pairs"] F_askPairs :=
  df_cal (N := N_askPairs) D_ sc_askPairs (fun _ _ _ _ _ _ us hl => match us, hl with | [_, _], _ => rfl) fun f cdv A0 outer s H E ds hr => (show SB _ _ _ _ b_askPairs from (sb_one (sx_for (j := 2) (passes_of rfl) rfl (ix_seq' (v_st 1)) sc_askPairs.nd rfl (by walk_at "loc") (sb_one (sx_for (j := 3) (passes_of rfl) rfl (ix_seq' (v_st 2)) sc_askPairs.nd rfl (by walk_at "loc") (sb_one (sx_if (et_not (et_chain op_le n_le k_le op_lt n_lt k_lt (er_k e_int) (v_rd 3) (v_rd 0))) (sb_one (sx_raise rfl (takes_of rfl rfl rfl rfl) T.x_NoThing)) sb_nil)))))))
abbrev s_namesBy : Stmt := topS 49
theorem sc_namesBy : FnScope N_namesBy ["things", "pairs"] (defScope s_namesBy) := ⟨rfl, rfl, rfl, by decide +kernel, rfl, by decide +kernel, by decide +kernel⟩
theorem ok_namesBy {P : Program} {w : World} {K : PySem.W.Frag} {mg : Str → Option Value} {base : Heap} {A : Nat → Addr} (D_ : Df K mg "names_by" s_namesBy) (T : Tx K mg A)  : Cal P w K mg base A 1 "names_by" ["things", "pairs"] F_namesBy :=
  df_cal (N := N_namesBy) D_ sc_namesBy (fun _ _ _ _ _ _ us hl => match us, hl with | [_, _], _ => rfl) fun f cdv A0 outer s H E ds hr => (show SB _ _ _ _ b_namesBy from (sb_cons (sx_set (i := 2) sc_namesBy.nd rfl (by walk_at "loc") (ex_listRg rfl rfl T.n_list rfl T.n_range (v_rd 0)))
  (sb_cons (sx_for (j := 3) (passes_of rfl) rfl (ix_seq' (v_st 1)) sc_namesBy.nd rfl (by walk_at "loc") (sb_one (sx_frz 2 (sx_set (i := 2) sc_namesBy.nd rfl (by walk_at "loc") (ex_comp rfl sc_namesBy.nd (ix_seq' (v_st 2)) (blkOk_by (N := N_namesBy) (sc := defScope s_namesBy) (by decide +kernel)) (fun _ _ _ _ _ => pg_name (i := 4) sc_namesBy.nd rfl (by walk_at "loc")) (fun _ _ _ _ _ => eif_nil) (fun _ _ _ _ _ => (es_x (ex_if (et_cmp (op_eqD hr.units) n_eq k_eq (v_rd 4) (er_x (ex_ix ix_seq n_idx k_idx (v_cn 2) (er_x (ex_ix ix_seq n_idx k_idx (v_cn 3) (er_k e_int) (fun _ _ => rfl))) (fun _ _ => rfl))) (nomark _)) (ex_ix ix_seq n_idx k_idx (v_cn 2) (er_x (ex_ix ix_seq n_idx k_idx (v_cn 3) (er_k e_int) (fun _ _ => rfl))) (fun _ _ => rfl)) (ex_s (v_st 4))))))))))
  (sb_one (sx_retV (i := 2) rfl (by walk_at "vis"))))))
abbrev s_sharingOf : Stmt := topS 50
theorem sc_sharingOf : FnScope N_sharingOf ["things", "pairs"] (defScope s_sharingOf) := ⟨rfl, rfl, rfl, by decide +kernel, rfl, by decide +kernel, by decide +kernel⟩
theorem ok_sharingOf {P : Program} {w : World} {K : PySem.W.Frag} {mg : Str → Option Value} {base : Heap} {A : Nat → Addr} (D_ : Df K mg "sharing_of" s_sharingOf) (T : Tx K mg A) (C_askThings : Cal P w K mg base A 1 "ask_things" ["things"] F_askThings) (C_askPairs : Cal P w K mg base A 1 "ask_pairs" ["things", "pairs"] F_askPairs) (C_marked : Cal P w K mg base A 1 "marked" ["names"] F_marked) (C_namesBy : Cal P w K mg base A 1 "names_by" ["things", "pairs"] F_namesBy) : Cal P w K mg base A 2 "sharing_of" ["things", "pairs"] F_sharingOf :=
  df_cal (N := N_sharingOf) D_ sc_sharingOf (fun _ _ _ _ _ _ us hl => match us, hl with | [_, _], _ => rfl) fun f cdv A0 outer s H E ds hr => (show SB _ _ _ _ b_sharingOf from (sb_cons (sx_drop (c_callR C_askThings (hr.mono (by decide)) (takes_of rfl rfl rfl rfl) (ea_cons (v_rd 0) ea_nil)))
  (sb_cons (sx_drop (c_callR C_askPairs (hr.mono (by decide)) (takes_of rfl rfl rfl rfl) (ea_cons (v_rd 0) (ea_cons (v_rd 1) ea_nil))))
  (sb_one (sx_ret (c_callR C_marked (hr.mono (by decide)) (takes_of rfl rfl rfl rfl) (ea_cons (er_x (c_callR C_namesBy (hr.mono (by decide)) (takes_of rfl rfl rfl rfl) (ea_cons (v_rd 0) (ea_cons (v_rd 1) ea_nil)))) ea_nil)))))))
abbrev s_otherOf : Stmt := topS 51
theorem sc_otherOf : FnScope N_otherOf ["pair", "thing"] (defScope s_otherOf) := ⟨rfl, rfl, rfl, by decide +kernel, rfl, by decide +kernel, by decide +kernel⟩
theorem ok_otherOf {P : Program} {w : World} {K : PySem.W.Frag} {mg : Str → Option Value} {base : Heap} {A : Nat → Addr} (D_ : Df K mg "other_of" s_otherOf) (T : Tx K mg A)  : Cal P w K mg base A 1 "other_of" ["pair", "thing"] F_otherOf :=
  df_cal (N := N_otherOf) D_ sc_otherOf (fun _ _ _ _ _ _ us hl => match us, hl with | [_, _], _ => rfl) fun f cdv A0 outer s H E ds hr => (show SB _ _ _ _ b_otherOf from (sb_cons (sx_if (et_cmp (op_eqD hr.units) n_eq k_eq (er_x (ex_ix ix_seq n_idx k_idx (v_cn 0) (er_k e_int) (fun _ _ => rfl))) (v_rd 1) (nomark _)) (sb_one (sx_ret (ex_ix ix_seq n_idx k_idx (v_cn 0) (er_k e_int) (fun _ _ => rfl)))) sb_nil)
  (sb_cons (sx_if (et_cmp (op_eqD hr.units) n_eq k_eq (er_x (ex_ix ix_seq n_idx k_idx (v_cn 0) (er_k e_int) (fun _ _ => rfl))) (v_rd 1) (nomark _)) (sb_one (sx_ret (ex_ix ix_seq n_idx k_idx (v_cn 0) (er_k e_int) (fun _ _ => rfl)))) sb_nil)
  (sb_one (sx_ret (ex_s e_non))))))
abbrev s_foundWay : Stmt := topS 52
theorem sc_foundWay : FnScope N_foundWay ["pairs", "one", "other"] (defScope s_foundWay) := ⟨rfl, rfl, rfl, by decide +kernel, rfl, by decide +kernel, by decide +kernel⟩
theorem ok_foundWay {P : Program} {w : World} {K : PySem.W.Frag} {mg : Str → Option Value} {base : Heap} {A : Nat → Addr} (D_ : Df K mg "found_way" s_foundWay) (T : Tx K mg A) (C_otherOf : Cal P w K mg base A 1 "other_of" ["pair", "thing"] F_otherOf) : Cal P w K mg base A 2 "found_way" ["pairs", "one", "other"] F_foundWay :=
  df_cal (N := N_foundWay) D_ sc_foundWay (fun _ _ _ _ _ _ us hl => match us, hl with | [_, _, _], _ => rfl) fun f cdv A0 outer s H E ds hr => (show SB _ _ _ _ b_foundWay from (sb_cons (sx_set (i := 3) sc_foundWay.nd rfl (by walk_at "loc") (ex_d1 (v_rd 1) (ex_lst ea_nil)))
  (sb_cons (sx_set (i := 4) sc_foundWay.nd rfl (by walk_at "loc") (ex_lst (ea_cons (v_st 1) ea_nil)))
  (sb_cons (sx_set (i := 5) sc_foundWay.nd rfl (by walk_at "loc") (ex_s e_int))
  (sb_cons (sx_while 1000 (passes_of rfl) (et_cmp op_lt n_lt k_lt (v_rd 5) (er_x (ex_callB call_lenU n_len k_len rfl T.n_len PySem.boot_len (ea_cons (v_rd 4) ea_nil))) (nomark _)) (sb_cons (sx_for (j := 6) (passes_of rfl) rfl (ix_range1 rfl T.n_range (ea_cons (er_x (ex_callB call_lenU n_len k_len rfl T.n_len PySem.boot_len (ea_cons (v_rd 0) ea_nil))) ea_nil)) sc_foundWay.nd rfl (by walk_at "loc") (sb_cons (sx_set (i := 7) sc_foundWay.nd rfl (by walk_at "loc") (c_callR C_otherOf (hr.mono (by decide)) (takes_of rfl rfl rfl rfl) (ea_cons (er_x (ex_ix ix_seq n_idx k_idx (v_cn 0) (v_rd 6) (fun _ _ => rfl))) (ea_cons (er_x (ex_ix ix_seq n_idx k_idx (v_cn 4) (v_rd 5) (fun _ _ => rfl))) ea_nil))))
  (sb_one (sx_if (et_w (ew_and (et_cmp op_isNU n_isn k_isn (v_rd 7) (er_k e_non) (nomark _)) (ew_and1 (et_onotin (hu_of hr) (v_rd 7) (i := 3) rfl (by walk_at "vis"))))) (sb_cons (sx_oput (hu_of hr) (i := 3) rfl (by walk_at "vis") (v_rd 7) (ex_op op_addU n_add k_add (ec_oget (hu_of hr) (i := 3) rfl (by walk_at "vis") (er_x (ex_ix ix_seq n_idx k_idx (v_cn 4) (v_rd 5) (fun _ _ => rfl))) (fun _ _ => rfl)) (ec_x (ex_lst (ea_cons (v_st 6) ea_nil)))))
  (sb_one (sx_app (i := 4) rfl (by walk_at "vis") (v_st 7)))) sb_nil))))
  (sb_one (sx_set (i := 5) sc_foundWay.nd rfl (by walk_at "loc") (ex_op op_addU n_add k_add (v_cn 5) (ec_s e_int))))))
  (sb_one (sx_retO (hu_of hr) (i := 3) rfl (by walk_at "vis") (v_rd 2) ⟨rfl, rfl, rfl, rfl⟩)))))))
abbrev s_wayBy : Stmt := topS 53
theorem sc_wayBy : FnScope N_wayBy ["things", "pairs", "one", "other"] (defScope s_wayBy) := ⟨rfl, rfl, rfl, by decide +kernel, rfl, by decide +kernel, by decide +kernel⟩
theorem ok_wayBy {P : Program} {w : World} {K : PySem.W.Frag} {mg : Str → Option Value} {base : Heap} {A : Nat → Addr} (D_ : Df K mg "way_by" s_wayBy) (T : Tx K mg A) (C_askThings : Cal P w K mg base A 1 "ask_things" ["things"] F_askThings) (C_askPairs : Cal P w K mg base A 1 "ask_pairs" ["things", "pairs"] F_askPairs) (C_foundWay : Cal P w K mg base A 2 "found_way" ["pairs", "one", "other"] F_foundWay) : Cal P w K mg base A 3 "way_by" ["things", "pairs", "one", "other"] F_wayBy :=
  df_cal (N := N_wayBy) D_ sc_wayBy (fun _ _ _ _ _ _ us hl => match us, hl with | [_, _, _, _], _ => rfl) fun f cdv A0 outer s H E ds hr => (show SB _ _ _ _ b_wayBy from (sb_cons (sx_drop (c_callR C_askThings (hr.mono (by decide)) (takes_of rfl rfl rfl rfl) (ea_cons (v_rd 0) ea_nil)))
  (sb_cons (sx_drop (c_callR C_askPairs (hr.mono (by decide)) (takes_of rfl rfl rfl rfl) (ea_cons (v_rd 0) (ea_cons (v_rd 1) ea_nil))))
  (sb_cons (sx_drop (c_callR C_askPairs (hr.mono (by decide)) (takes_of rfl rfl rfl rfl) (ea_cons (v_rd 0) (ea_cons (er_x (ex_lst (ea_cons (et_tup (ea_cons (v_st 2) (ea_cons (v_st 3) ea_nil))) ea_nil))) ea_nil))))
  (sb_cons (sx_set (i := 4) sc_wayBy.nd rfl (by walk_at "loc") (c_callR C_foundWay (hr.mono (by decide)) (takes_of rfl rfl rfl rfl) (ea_cons (v_rd 1) (ea_cons (v_rd 2) (ea_cons (v_rd 3) ea_nil)))))
  (sb_cons (sx_if (et_cmp op_isU n_is k_is (v_rd 4) (er_k e_non) (nomark _)) (sb_one (sx_raise rfl (takes_of rfl rfl rfl rfl) T.x_NoWay)) sb_nil)
  (sb_one (sx_retV (i := 4) rfl (by walk_at "vis")))))))))
abbrev s_judged : Stmt := topS 54
theorem sc_judged : FnScope N_judged ["things", "together", "apart"] (defScope s_judged) := ⟨rfl, rfl, rfl, by decide +kernel, rfl, by decide +kernel, by decide +kernel⟩
theorem ok_judged {P : Program} {w : World} {K : PySem.W.Frag} {mg : Str → Option Value} {base : Heap} {A : Nat → Addr} (D_ : Df K mg "judged" s_judged) (T : Tx K mg A) (C_askThings : Cal P w K mg base A 1 "ask_things" ["things"] F_askThings) (C_askPairs : Cal P w K mg base A 1 "ask_pairs" ["things", "pairs"] F_askPairs) (C_foundWay : Cal P w K mg base A 2 "found_way" ["pairs", "one", "other"] F_foundWay) (C_marked : Cal P w K mg base A 1 "marked" ["names"] F_marked) (C_namesBy : Cal P w K mg base A 1 "names_by" ["things", "pairs"] F_namesBy) : Cal P w K mg base A 3 "judged" ["things", "together", "apart"] F_judged :=
  df_cal (N := N_judged) D_ sc_judged (fun _ _ _ _ _ _ us hl => match us, hl with | [_, _, _], _ => rfl) fun f cdv A0 outer s H E ds hr => (show SB _ _ _ _ b_judged from (sb_cons (sx_drop (c_callR C_askThings (hr.mono (by decide)) (takes_of rfl rfl rfl rfl) (ea_cons (v_rd 0) ea_nil)))
  (sb_cons (sx_drop (c_callR C_askPairs (hr.mono (by decide)) (takes_of rfl rfl rfl rfl) (ea_cons (v_rd 0) (ea_cons (v_rd 1) ea_nil))))
  (sb_cons (sx_drop (c_callR C_askPairs (hr.mono (by decide)) (takes_of rfl rfl rfl rfl) (ea_cons (v_rd 0) (ea_cons (v_rd 2) ea_nil))))
  (sb_cons (sx_for (j := 3) (passes_of rfl) rfl (ix_range1 rfl T.n_range (ea_cons (er_x (ex_callB call_lenU n_len k_len rfl T.n_len PySem.boot_len (ea_cons (v_rd 2) ea_nil))) ea_nil)) sc_judged.nd rfl (by walk_at "loc") (sb_cons (sx_set (i := 4) sc_judged.nd rfl (by walk_at "loc") (c_callR C_foundWay (hr.mono (by decide)) (takes_of rfl rfl rfl rfl) (ea_cons (v_rd 1) (ea_cons (er_x (ex_ix ix_seq n_idx k_idx (ec_x (ex_ix ix_seq n_idx k_idx (v_cn 2) (v_rd 3) (fun _ _ => rfl))) (er_k e_int) (fun _ _ => rfl))) (ea_cons (er_x (ex_ix ix_seq n_idx k_idx (ec_x (ex_ix ix_seq n_idx k_idx (v_cn 2) (v_rd 3) (fun _ _ => rfl))) (er_k e_int) (fun _ _ => rfl))) ea_nil)))))
  (sb_one (sx_if (et_cmp op_isNU n_isn k_isn (v_rd 4) (er_k e_non) (nomark _)) (sb_one (sx_retTL (i := 4) e_str (v_st 3) rfl (by walk_at "vis"))) sb_nil))))
  (sb_one (sx_ret (ex_tl e_str (c_callR C_marked (hr.mono (by decide)) (takes_of rfl rfl rfl rfl) (ea_cons (er_x (c_callR C_namesBy (hr.mono (by decide)) (takes_of rfl rfl rfl rfl) (ea_cons (v_rd 0) (ea_cons (v_rd 1) ea_nil)))) ea_nil))))))))))
abbrev s_LcellAt : Stmt := topS 56
theorem sc_LcellAt : FnScope N_LcellAt ["script", "k"] (defScope s_LcellAt) := ⟨rfl, rfl, rfl, by decide +kernel, rfl, by decide +kernel, by decide +kernel⟩
theorem ok_LcellAt {P : Program} {w : World} {K : PySem.W.Frag} {mg : Str → Option Value} {base : Heap} {A : Nat → Addr} (D_ : Df K mg "_law_cell_at" s_LcellAt) (T : Tx K mg A)  : Cal P w K mg base A 1 "_law_cell_at" ["script", "k"] F_LcellAt :=
  df_cal (N := N_LcellAt) D_ sc_LcellAt (fun _ _ _ _ _ _ us hl => match us, hl with | [_, _], _ => rfl) fun f cdv A0 outer s H E ds hr => (show SB _ _ _ _ b_LcellAt from (sb_cons (sx_if (et_cmp op_lt n_lt k_lt (v_rd 1) (er_x (ex_callB call_lenU n_len k_len rfl T.n_len PySem.boot_len (ea_cons (v_rd 0) ea_nil))) (nomark _)) (sb_one (sx_ret (ex_ix ix_seq n_idx k_idx (v_cn 0) (v_rd 1) (fun _ _ => rfl)))) sb_nil)
  (sb_one (sx_ret (ex_s e_int)))))
abbrev s_Lwhich : Stmt := topS 57
theorem sc_Lwhich : FnScope N_Lwhich ["e"] (defScope s_Lwhich) := ⟨rfl, rfl, rfl, by decide +kernel, rfl, by decide +kernel, by decide +kernel⟩
theorem emW {K : PySem.W.Frag} {mg : Str → Option Value} {A : Nat → Addr} (T : Tx K mg A) : ∀ c l, h_which c = some l → PySem.W.exmOne K (.ref (A c)) (.ref (A 9)) = some true := fun c l hh => by
  unfold h_which at hh
  (repeat' split at hh) <;> first | (rename_i hc; subst hc; first | exact T.tw_NoThings.em | exact T.tw_NoSharing.em | exact T.tw_NoShares.em | exact T.tw_Unlike.em | exact T.tw_NotFiner.em | exact T.tw_NoThing.em | exact T.tw_NoNumber.em | exact T.tw_NoWay.em | exact T.tw_NotRead.em) | cases hh
theorem trW {K : PySem.W.Frag} {mg : Str → Option Value} {A : Nat → Addr} (T : Tx K mg A) : ∀ c l, h_which c = some l → Tr9 K A c ∧ l = wb c := fun c l hh => by
  unfold h_which at hh
  (repeat' split at hh) <;> first | (rename_i hc; subst hc; cases hh; first | exact ⟨T.tw_NoThings, rfl⟩ | exact ⟨T.tw_NoSharing, rfl⟩ | exact ⟨T.tw_NoShares, rfl⟩ | exact ⟨T.tw_Unlike, rfl⟩ | exact ⟨T.tw_NotFiner, rfl⟩ | exact ⟨T.tw_NoThing, rfl⟩ | exact ⟨T.tw_NoNumber, rfl⟩ | exact ⟨T.tw_NoWay, rfl⟩ | exact ⟨T.tw_NotRead, rfl⟩) | cases hh
theorem ok_Lwhich {P : Program} {w : World} {K : PySem.W.Frag} {mg : Str → Option Value} {base : Heap} {A : Nat → Addr} (D_ : Df K mg "_law_which" s_Lwhich) (T : Tx K mg A) : CalW P w K mg base A h_which "_law_which" ["e"] := by
  obtain ⟨f, fd, F, hm⟩ := D_.ex
  refine ⟨f, fd, ?_, hm, F.kp, F.binds fun _ _ _ _ _ _ us hl => match us, hl with | [_], _ => rfl⟩
  obtain ⟨oc, od, kV, doc, pm, an, cdv, ct, osl, rfl, lk, hcd⟩ := F.ex
  intro c l hc Ar outer s H args Q E p room pin e0 bind hz hf hQ
  obtain ⟨t, rfl⟩ := trW T c l hc
  refine fn_ofW (k := 0) lk hcd sc_Lwhich room pin e0 bind (vs := [.ref p.1]) (.cons (show RelV (.ref p.1) (.ref p.1) from rfl) .nil) rfl ?_
  have hmem : p ∈ (L2H.cxH (L2.CX P w) P w K mg base N_Lwhich "_law_which" (defScope s_Lwhich) f cdv Ar outer s H E p).pn := List.mem_cons_self
  refine ⟨_, pss_cons (ps_set (i := 1) sc_Lwhich.nd rfl (by walk_at "loc") (pe_lst (pa_cons (pe_isP (j := 0) hmem t.ec hz hf rfl (by walk_at "vis") rfl T.n_isinstance rfl T.x_NoThings.gC) (pa_cons (pe_isP (j := 0) hmem t.ec hz hf rfl (by walk_at "vis") rfl T.n_isinstance rfl T.x_NoSharing.gC) (pa_cons (pe_isP (j := 0) hmem t.ec hz hf rfl (by walk_at "vis") rfl T.n_isinstance rfl T.x_NoShares.gC) (pa_cons (pe_isP (j := 0) hmem t.ec hz hf rfl (by walk_at "vis") rfl T.n_isinstance rfl T.x_Unlike.gC) pa_nil))))))
    (pss_cons (ps_set (i := 1) sc_Lwhich.nd rfl (by walk_at "loc") (pe_op op_cat (pe_var (i := 1) rfl (by walk_at "vis")) (pe_lst (pa_cons (pe_isP (j := 0) hmem t.ec hz hf rfl (by walk_at "vis") rfl T.n_isinstance rfl T.x_NotFiner.gC) (pa_cons (pe_isP (j := 0) hmem t.ec hz hf rfl (by walk_at "vis") rfl T.n_isinstance rfl T.x_NoThing.gC) (pa_cons (pe_isP (j := 0) hmem t.ec hz hf rfl (by walk_at "vis") rfl T.n_isinstance rfl T.x_NoNumber.gC) pa_nil))))))
    (pss_one (ps_ret (pe_op op_cat (pe_var (i := 1) rfl (by walk_at "vis")) (pe_lst (pa_cons (pe_isP (j := 0) hmem t.ec hz hf rfl (by walk_at "vis") rfl T.n_isinstance rfl T.x_NoWay.gC) (pa_cons (pe_isP (j := 0) hmem t.ec hz hf rfl (by walk_at "vis") rfl T.n_isinstance rfl T.x_NotRead.gC) (pa_cons (pe_isPV (j := 0) hmem t.ec hz hf rfl (by walk_at "vis") rfl T.n_isinstance rfl T.n_ValueError) pa_nil)))))))), ?_⟩
  refine ⟨.ref p.1, rfl, .ref _, .ref _, _, rfl, fun _ hu => hu, t.k0, ?_⟩
  refine ⟨.ref p.1, rfl, .ref _, .ref _, _, rfl, fun _ hu => hu, t.k1, ?_⟩
  refine ⟨.ref p.1, rfl, .ref _, .ref _, _, rfl, fun _ hu => hu, t.k2, ?_⟩
  refine ⟨.ref p.1, rfl, .ref _, .ref _, _, rfl, fun _ hu => hu, t.k3, ?_⟩
  refine ⟨by show 4 ≤ sizeLine; decide, fun q1 n1 => ?_⟩
  refine ⟨.ref q1, rfl, ?_⟩
  refine ⟨.ref p.1, rfl, .ref _, .ref _, _, rfl, fun _ hu => hu, t.k4, ?_⟩
  refine ⟨.ref p.1, rfl, .ref _, .ref _, _, rfl, fun _ hu => hu, t.k5, ?_⟩
  refine ⟨.ref p.1, rfl, .ref _, .ref _, _, rfl, fun _ hu => hu, t.k6, ?_⟩
  refine ⟨by show 3 ≤ sizeLine; decide, fun q2 n2 => ?_⟩
  have m21 : q1 ≠ q2 := ne_of_none upd_same n2
  refine ⟨q1, q2, _, _, rfl, rfl, (upd_ne m21).trans upd_same, upd_same, by show 7 ≤ sizeLine; decide, fun q3 n3 => ?_⟩
  refine ⟨.ref q3, rfl, ?_⟩
  refine ⟨.ref p.1, rfl, .ref _, .ref _, _, rfl, fun _ hu => hu, t.k7, ?_⟩
  refine ⟨.ref p.1, rfl, .ref _, .ref _, _, rfl, fun _ hu => hu, t.k8, ?_⟩
  refine ⟨.ref p.1, rfl, .ty "ValueError", .type "ValueError", _, rfl, fun _ hu => hu, t.kv, ?_⟩
  refine ⟨by show 3 ≤ sizeLine; decide, fun q4 n4 => ?_⟩
  have m43 : q3 ≠ q4 := ne_of_none upd_same n4
  refine ⟨q3, q4, _, _, rfl, rfl, (upd_ne m43).trans upd_same, upd_same, by show 10 ≤ sizeLine; decide, fun q5 n5 => ?_⟩
  refine hQ _ _ ⟨fun Hz e => ?_, q5, rfl, upd_same, ?_⟩
  · exact Stp.own2 (Stp.own2 (Stp.own2 (Stp.own2 (Stp.own e n1) n2) n3) n4) n5
  · exact (Ex.new n1).none ((Ex.new n2).none ((Ex.new n3).none ((Ex.new n4).none n5)))
abbrev s_LofTwo : Stmt := topS 58
theorem sc_LofTwo : FnScope N_LofTwo ["way", "one", "other"] (defScope s_LofTwo) := ⟨rfl, rfl, rfl, by decide +kernel, rfl, by decide +kernel, by decide +kernel⟩
theorem ok_LofTwo {P : Program} {w : World} {K : PySem.W.Frag} {mg : Str → Option Value} {base : Heap} {A : Nat → Addr} (D_ : Df K mg "_law_of_two" s_LofTwo) (T : Tx K mg A) (C_isFiner : Cal P w K mg base A 4 "is_finer" ["one", "other"] F_isFiner) (C_meeting : Cal P w K mg base A 4 "meeting" ["one", "other"] F_meeting) (C_joining : Cal P w K mg base A 4 "joining" ["one", "other"] F_joining) (C_rise : Cal P w K mg base A 5 "rise" ["one", "other"] F_rise) (C_manyRises : Cal P w K mg base A 5 "many_rises" ["one", "other"] F_manyRises) (C_signed : Cal P w K mg base A 5 "signed" ["one", "other"] F_signed) : Cal P w K mg base A 6 "_law_of_two" ["way", "one", "other"] F_LofTwo :=
  df_cal (N := N_LofTwo) D_ sc_LofTwo (fun _ _ _ _ _ _ us hl => match us, hl with | [_, _, _], _ => rfl) fun f cdv A0 outer s H E ds hr => (show SB _ _ _ _ b_LofTwo from (sb_one (sx_if (et_cmp (op_eqD hr.units) n_eq k_eq (v_rd 0) (er_k e_int) (nomark _)) (sb_one (sx_drop (c_callR C_isFiner (hr.mono (by decide)) (takes_of rfl rfl rfl rfl) (ea_cons (v_rd 1) (ea_cons (v_rd 2) ea_nil))))) (sb_one (sx_if (et_cmp (op_eqD hr.units) n_eq k_eq (v_rd 0) (er_k e_int) (nomark _)) (sb_one (sx_drop (c_callR C_meeting (hr.mono (by decide)) (takes_of rfl rfl rfl rfl) (ea_cons (v_rd 1) (ea_cons (v_rd 2) ea_nil))))) (sb_one (sx_if (et_cmp (op_eqD hr.units) n_eq k_eq (v_rd 0) (er_k e_int) (nomark _)) (sb_one (sx_drop (c_callR C_joining (hr.mono (by decide)) (takes_of rfl rfl rfl rfl) (ea_cons (v_rd 1) (ea_cons (v_rd 2) ea_nil))))) (sb_one (sx_if (et_cmp (op_eqD hr.units) n_eq k_eq (v_rd 0) (er_k e_int) (nomark _)) (sb_one (sx_drop (c_call C_rise (hr.mono (by decide)) (takes_of rfl rfl rfl rfl) (ea_cons (v_st 1) (ea_cons (v_st 2) ea_nil))))) (sb_one (sx_if (et_cmp (op_eqD hr.units) n_eq k_eq (v_rd 0) (er_k e_int) (nomark _)) (sb_one (sx_drop (c_callR C_manyRises (hr.mono (by decide)) (takes_of rfl rfl rfl rfl) (ea_cons (v_rd 1) (ea_cons (v_rd 2) ea_nil))))) (sb_one (sx_drop (c_callR C_signed (hr.mono (by decide)) (takes_of rfl rfl rfl rfl) (ea_cons (v_rd 1) (ea_cons (v_rd 2) ea_nil))))))))))))))))
abbrev s_LnoThings : Stmt := topS 59
theorem sc_LnoThings : FnScope N_LnoThings ["cell", "far"] (defScope s_LnoThings) := ⟨rfl, rfl, rfl, by decide +kernel, rfl, by decide +kernel, by decide +kernel⟩
theorem ok_LnoThings {P : Program} {w : World} {K : PySem.W.Frag} {mg : Str → Option Value} {base : Heap} {A : Nat → Addr} (D_ : Df K mg "_law_no_things" s_LnoThings) (T : Tx K mg A) (C_many : Cal P w K mg base A 2 "many" ["things"] F_many) (C_manyWith : Cal P w K mg base A 2 "many_with" ["things", "shares"] F_manyWith) (C_sharingAt : Cal P w K mg base A 3 "sharing_at" ["things", "number"] F_sharingAt) (C_sharingOf : Cal P w K mg base A 2 "sharing_of" ["things", "pairs"] F_sharingOf) (C_wayBy : Cal P w K mg base A 3 "way_by" ["things", "pairs", "one", "other"] F_wayBy) (C_judged : Cal P w K mg base A 3 "judged" ["things", "together", "apart"] F_judged) : Cal P w K mg base A 4 "_law_no_things" ["cell", "far"] F_LnoThings :=
  df_cal (N := N_LnoThings) D_ sc_LnoThings (fun _ _ _ _ _ _ us hl => match us, hl with | [_, _], _ => rfl) fun f cdv A0 outer s H E ds hr => (show SB _ _ _ _ b_LnoThings from (sb_cons (sx_set (i := 2) sc_LnoThings.nd rfl (by walk_at "loc") (ex_ix ix_seq n_idx k_idx (ec_x (ex_lst (ea_cons e_int (ea_cons e_int (ea_cons (es_x (ex_un un_neg n_neg k_neg (v_rd 1))) (ea_cons (es_x (ex_op op_addU n_add k_add (ec_s e_int) (v_cn 1))) ea_nil)))))) (er_x (ex_op op_mod n_mod k_mod (v_rd 0) (er_k e_int))) (fun _ _ => rfl)))
  (sb_cons (sx_set (i := 3) sc_LnoThings.nd rfl (by walk_at "loc") (ex_op op_mod n_mod k_mod (er_x (ex_op op_fdiv n_div k_div (v_rd 0) (er_k e_int))) (er_k e_int)))
  (sb_one (sx_if (et_cmp (op_eqD hr.units) n_eq k_eq (v_rd 3) (er_k e_int) (nomark _)) (sb_one (sx_drop (c_callR C_many (hr.mono (by decide)) (takes_of rfl rfl rfl rfl) (ea_cons (v_rd 2) ea_nil)))) (sb_one (sx_if (et_cmp (op_eqD hr.units) n_eq k_eq (v_rd 3) (er_k e_int) (nomark _)) (sb_one (sx_drop (c_callR C_manyWith (hr.mono (by decide)) (takes_of rfl rfl rfl rfl) (ea_cons (v_rd 2) (ea_cons (er_x (ex_un un_neg n_neg k_neg (er_k e_int))) ea_nil))))) (sb_one (sx_if (et_cmp (op_eqD hr.units) n_eq k_eq (v_rd 3) (er_k e_int) (nomark _)) (sb_one (sx_drop (c_callR C_sharingAt (hr.mono (by decide)) (takes_of rfl rfl rfl rfl) (ea_cons (v_rd 2) (ea_cons (er_x (ex_un un_neg n_neg k_neg (er_k e_int))) ea_nil))))) (sb_one (sx_if (et_cmp (op_eqD hr.units) n_eq k_eq (v_rd 3) (er_k e_int) (nomark _)) (sb_one (sx_drop (c_callR C_sharingOf (hr.mono (by decide)) (takes_of rfl rfl rfl rfl) (ea_cons (v_rd 2) (ea_cons (er_x (ex_lst (ea_cons (et_tup (ea_cons e_int (ea_cons e_int ea_nil))) ea_nil))) ea_nil))))) (sb_one (sx_if (et_cmp (op_eqD hr.units) n_eq k_eq (v_rd 3) (er_k e_int) (nomark _)) (sb_one (sx_drop (c_callR C_wayBy (hr.mono (by decide)) (takes_of rfl rfl rfl rfl) (ea_cons (v_rd 2) (ea_cons (er_x (ex_lst ea_nil)) (ea_cons (er_k e_int) (ea_cons (er_k e_int) ea_nil))))))) (sb_one (sx_drop (c_call C_judged (hr.mono (by decide)) (takes_of rfl rfl rfl rfl) (ea_cons (v_st 2) (ea_cons (es_x (ex_lst (ea_cons (et_tup (ea_cons e_int (ea_cons (es_x (ex_un un_neg n_neg k_neg (er_k e_int))) ea_nil))) ea_nil))) (ea_cons (es_x (ex_lst (ea_cons (et_tup (ea_cons e_int (ea_cons e_int ea_nil))) ea_nil))) ea_nil)))))))))))))))))))
abbrev s_LnoSharing : Stmt := topS 60
theorem sc_LnoSharing : FnScope N_LnoSharing ["cell", "far"] (defScope s_LnoSharing) := ⟨rfl, rfl, rfl, by decide +kernel, rfl, by decide +kernel, by decide +kernel⟩
theorem ok_LnoSharing {P : Program} {w : World} {K : PySem.W.Frag} {mg : Str → Option Value} {base : Heap} {A : Nat → Addr} (D_ : Df K mg "_law_no_sharing" s_LnoSharing) (T : Tx K mg A) (C_LofTwo : Cal P w K mg base A 6 "_law_of_two" ["way", "one", "other"] F_LofTwo) (C_sharesOf : Cal P w K mg base A 3 "shares_of" ["one"] F_sharesOf) (C_sizes : Cal P w K mg base A 3 "sizes" ["one"] F_sizes) (C_numberOf : Cal P w K mg base A 3 "number_of" ["one"] F_numberOf) (C_manyFiner : Cal P w K mg base A 3 "many_finer" ["one"] F_manyFiner) (C_manyCoarser : Cal P w K mg base A 3 "many_coarser" ["one"] F_manyCoarser) (C_shown : Cal P w K mg base A 3 "shown" ["one"] F_shown) : Cal P w K mg base A 7 "_law_no_sharing" ["cell", "far"] F_LnoSharing :=
  df_cal (N := N_LnoSharing) D_ sc_LnoSharing (fun _ _ _ _ _ _ us hl => match us, hl with | [_, _], _ => rfl) fun f cdv A0 outer s H E ds hr => (show SB _ _ _ _ b_LnoSharing from (sb_cons (sx_set (i := 2) sc_LnoSharing.nd rfl (by walk_at "loc") (ex_lst (ea_cons (es_x (ex_lst ea_nil)) (ea_cons (es_x (ex_lst (ea_cons e_int ea_nil))) (ea_cons (es_x (ex_lst (ea_cons e_int (ea_cons e_int ea_nil)))) (ea_cons (es_x (ex_lst (ea_cons e_int (ea_cons (es_x (ex_op op_sub n_sub k_sub (er_x (ex_un un_neg n_neg k_neg (er_k e_int))) (v_rd 1))) ea_nil)))) (ea_cons (es_x (ex_lst (ea_cons e_int (ea_cons e_int (ea_cons (es_x (ex_op op_addU n_add k_add (ec_s e_int) (v_cn 1))) ea_nil))))) (ea_cons (es_x (ex_op op_mulU n_mul k_mul (ec_x (ex_lst (ea_cons e_int ea_nil))) (er_k e_int))) (ea_cons (es_x (ex_lst (ea_cons e_int (ea_cons e_int (ea_cons e_int (ea_cons e_int ea_nil)))))) ea_nil)))))))))
  (sb_cons (sx_set (i := 3) sc_LnoSharing.nd rfl (by walk_at "loc") (ex_ix ix_seq n_idx k_idx (v_cn 2) (er_x (ex_op op_mod n_mod k_mod (v_rd 0) (er_k e_int))) (fun _ _ => rfl)))
  (sb_cons (sx_set (i := 4) sc_LnoSharing.nd rfl (by walk_at "loc") (ex_op op_mod n_mod k_mod (er_x (ex_op op_fdiv n_div k_div (v_rd 0) (er_k e_int))) (er_k e_int)))
  (sb_one (sx_if (et_cmp op_lt n_lt k_lt (v_rd 4) (er_k e_int) (nomark _)) (sb_one (sx_drop (c_callR C_LofTwo (hr.mono (by decide)) (takes_of rfl rfl rfl rfl) (ea_cons (v_rd 4) (ea_cons (v_rd 3) (ea_cons (er_x (ex_lst (ea_cons e_int (ea_cons e_int ea_nil)))) ea_nil)))))) (sb_one (sx_if (et_cmp op_lt n_lt k_lt (v_rd 4) (er_k e_int) (nomark _)) (sb_one (sx_drop (c_callR C_LofTwo (hr.mono (by decide)) (takes_of rfl rfl rfl rfl) (ea_cons (er_x (ex_op op_sub n_sub k_sub (v_rd 4) (er_k e_int))) (ea_cons (er_x (ex_lst (ea_cons e_int (ea_cons e_int ea_nil)))) (ea_cons (v_rd 3) ea_nil)))))) (sb_one (sx_if (et_cmp (op_eqD hr.units) n_eq k_eq (v_rd 4) (er_k e_int) (nomark _)) (sb_one (sx_drop (c_call C_sharesOf (hr.mono (by decide)) (takes_of rfl rfl rfl rfl) (ea_cons (v_st 3) ea_nil)))) (sb_one (sx_if (et_cmp (op_eqD hr.units) n_eq k_eq (v_rd 4) (er_k e_int) (nomark _)) (sb_one (sx_drop (c_callR C_sizes (hr.mono (by decide)) (takes_of rfl rfl rfl rfl) (ea_cons (v_rd 3) ea_nil)))) (sb_one (sx_if (et_cmp (op_eqD hr.units) n_eq k_eq (v_rd 4) (er_k e_int) (nomark _)) (sb_one (sx_drop (c_callR C_numberOf (hr.mono (by decide)) (takes_of rfl rfl rfl rfl) (ea_cons (v_rd 3) ea_nil)))) (sb_one (sx_if (et_cmp (op_eqD hr.units) n_eq k_eq (v_rd 4) (er_k e_int) (nomark _)) (sb_one (sx_drop (c_callR C_manyFiner (hr.mono (by decide)) (takes_of rfl rfl rfl rfl) (ea_cons (v_rd 3) ea_nil)))) (sb_one (sx_if (et_cmp (op_eqD hr.units) n_eq k_eq (v_rd 4) (er_k e_int) (nomark _)) (sb_one (sx_drop (c_callR C_manyCoarser (hr.mono (by decide)) (takes_of rfl rfl rfl rfl) (ea_cons (v_rd 3) ea_nil)))) (sb_one (sx_drop (c_callR C_shown (hr.mono (by decide)) (takes_of rfl rfl rfl rfl) (ea_cons (v_rd 3) ea_nil))))))))))))))))))))))
abbrev s_LnoThing : Stmt := topS 61
theorem sc_LnoThing : FnScope N_LnoThing ["cell", "far"] (defScope s_LnoThing) := ⟨rfl, rfl, rfl, by decide +kernel, rfl, by decide +kernel, by decide +kernel⟩
theorem ok_LnoThing {P : Program} {w : World} {K : PySem.W.Frag} {mg : Str → Option Value} {base : Heap} {A : Nat → Addr} (D_ : Df K mg "_law_no_thing" s_LnoThing) (T : Tx K mg A) (C_sharingOf : Cal P w K mg base A 2 "sharing_of" ["things", "pairs"] F_sharingOf) (C_wayBy : Cal P w K mg base A 3 "way_by" ["things", "pairs", "one", "other"] F_wayBy) (C_judged : Cal P w K mg base A 3 "judged" ["things", "together", "apart"] F_judged) : Cal P w K mg base A 4 "_law_no_thing" ["cell", "far"] F_LnoThing :=
  df_cal (N := N_LnoThing) D_ sc_LnoThing (fun _ _ _ _ _ _ us hl => match us, hl with | [_, _], _ => rfl) fun f cdv A0 outer s H E ds hr => (show SB _ _ _ _ b_LnoThing from (sb_cons (sx_set (i := 2) sc_LnoThing.nd rfl (by walk_at "loc") (ex_ix ix_seq n_idx k_idx (ec_x (ex_lst (ea_cons e_int (ea_cons (es_x (ex_un un_neg n_neg k_neg (er_k e_int))) (ea_cons (es_x (ex_op op_addU n_add k_add (ec_s e_int) (v_cn 1))) (ea_cons (es_x (ex_op op_sub n_sub k_sub (er_x (ex_un un_neg n_neg k_neg (er_k e_int))) (v_rd 1))) ea_nil)))))) (er_x (ex_op op_mod n_mod k_mod (v_rd 0) (er_k e_int))) (fun _ _ => rfl)))
  (sb_cons (sx_set (i := 3) sc_LnoThing.nd rfl (by walk_at "loc") (ex_ix ix_seq n_idx k_idx (ec_x (ex_lst (ea_cons (et_tup (ea_cons (v_st 2) (ea_cons e_int ea_nil))) (ea_cons (et_tup (ea_cons e_int (ea_cons (v_st 2) ea_nil))) ea_nil)))) (er_x (ex_op op_mod n_mod k_mod (er_x (ex_op op_fdiv n_div k_div (v_rd 0) (er_k e_int))) (er_k e_int))) (fun _ _ => rfl)))
  (sb_cons (sx_set (i := 4) sc_LnoThing.nd rfl (by walk_at "loc") (ex_op op_mod n_mod k_mod (er_x (ex_op op_fdiv n_div k_div (v_rd 0) (er_k e_int))) (er_k e_int)))
  (sb_one (sx_if (et_cmp (op_eqD hr.units) n_eq k_eq (v_rd 4) (er_k e_int) (nomark _)) (sb_one (sx_drop (c_callR C_sharingOf (hr.mono (by decide)) (takes_of rfl rfl rfl rfl) (ea_cons (er_k e_int) (ea_cons (er_x (ex_lst (ea_cons (et_tup (ea_cons e_int (ea_cons e_int ea_nil))) (ea_cons (v_st 3) ea_nil)))) ea_nil))))) (sb_one (sx_if (et_cmp (op_eqD hr.units) n_eq k_eq (v_rd 4) (er_k e_int) (nomark _)) (sb_one (sx_drop (c_callR C_wayBy (hr.mono (by decide)) (takes_of rfl rfl rfl rfl) (ea_cons (er_k e_int) (ea_cons (er_x (ex_lst (ea_cons (v_st 3) (ea_cons (et_tup (ea_cons e_int (ea_cons e_int ea_nil))) ea_nil)))) (ea_cons (er_k e_int) (ea_cons (er_k e_int) ea_nil))))))) (sb_one (sx_if (et_cmp (op_eqD hr.units) n_eq k_eq (v_rd 4) (er_k e_int) (nomark _)) (sb_one (sx_drop (c_callR C_wayBy (hr.mono (by decide)) (takes_of rfl rfl rfl rfl) (ea_cons (er_k e_int) (ea_cons (er_x (ex_lst (ea_cons (et_tup (ea_cons e_int (ea_cons e_int ea_nil))) ea_nil))) (ea_cons (v_rd 2) (ea_cons (er_k e_int) ea_nil))))))) (sb_one (sx_if (et_cmp (op_eqD hr.units) n_eq k_eq (v_rd 4) (er_k e_int) (nomark _)) (sb_one (sx_drop (c_callR C_wayBy (hr.mono (by decide)) (takes_of rfl rfl rfl rfl) (ea_cons (er_k e_int) (ea_cons (er_x (ex_lst ea_nil)) (ea_cons (er_k e_int) (ea_cons (v_rd 2) ea_nil))))))) (sb_one (sx_if (et_cmp (op_eqD hr.units) n_eq k_eq (v_rd 4) (er_k e_int) (nomark _)) (sb_one (sx_drop (c_call C_judged (hr.mono (by decide)) (takes_of rfl rfl rfl rfl) (ea_cons e_int (ea_cons (es_x (ex_lst (ea_cons (et_tup (ea_cons e_int (ea_cons e_int ea_nil))) (ea_cons (v_st 3) ea_nil)))) (ea_cons (es_x (ex_lst (ea_cons (et_tup (ea_cons e_int (ea_cons e_int ea_nil))) ea_nil))) ea_nil)))))) (sb_one (sx_drop (c_call C_judged (hr.mono (by decide)) (takes_of rfl rfl rfl rfl) (ea_cons e_int (ea_cons (es_x (ex_lst (ea_cons (et_tup (ea_cons e_int (ea_cons e_int ea_nil))) ea_nil))) (ea_cons (es_x (ex_lst (ea_cons (et_tup (ea_cons e_int (ea_cons e_int ea_nil))) (ea_cons (v_st 3) ea_nil)))) ea_nil))))))))))))))))))))
abbrev s_LnoNumber : Stmt := topS 62
theorem sc_LnoNumber : FnScope N_LnoNumber ["cell", "far"] (defScope s_LnoNumber) := ⟨rfl, rfl, rfl, by decide +kernel, rfl, by decide +kernel, by decide +kernel⟩
theorem ok_LnoNumber {P : Program} {w : World} {K : PySem.W.Frag} {mg : Str → Option Value} {base : Heap} {A : Nat → Addr} (D_ : Df K mg "_law_no_number" s_LnoNumber) (T : Tx K mg A) (C_manyWith : Cal P w K mg base A 2 "many_with" ["things", "shares"] F_manyWith) (C_sharingAt : Cal P w K mg base A 3 "sharing_at" ["things", "number"] F_sharingAt) : Cal P w K mg base A 4 "_law_no_number" ["cell", "far"] F_LnoNumber :=
  df_cal (N := N_LnoNumber) D_ sc_LnoNumber (fun _ _ _ _ _ _ us hl => match us, hl with | [_, _], _ => rfl) fun f cdv A0 outer s H E ds hr => (show SB _ _ _ _ b_LnoNumber from (sb_cons (sx_set (i := 2) sc_LnoNumber.nd rfl (by walk_at "loc") (ex_op op_mod n_mod k_mod (v_rd 0) (er_k e_int)))
  (sb_one (sx_if (et_cmp (op_eqD hr.units) n_eq k_eq (v_rd 2) (er_k e_int) (nomark _)) (sb_one (sx_drop (c_callR C_manyWith (hr.mono (by decide)) (takes_of rfl rfl rfl rfl) (ea_cons (er_k e_int) (ea_cons (er_x (ex_ix ix_seq n_idx k_idx (ec_x (ex_lst (ea_cons (es_x (ex_un un_neg n_neg k_neg (er_k e_int))) (ea_cons e_int (ea_cons (es_x (ex_op op_sub n_sub k_sub (er_x (ex_un un_neg n_neg k_neg (er_k e_int))) (v_rd 1))) (ea_cons (es_x (ex_op op_addU n_add k_add (ec_s e_int) (v_cn 1))) ea_nil)))))) (er_x (ex_op op_mod n_mod k_mod (er_x (ex_op op_fdiv n_div k_div (v_rd 0) (er_k e_int))) (er_k e_int))) (fun _ _ => rfl))) ea_nil))))) (sb_one (sx_drop (c_callR C_sharingAt (hr.mono (by decide)) (takes_of rfl rfl rfl rfl) (ea_cons (er_k e_int) (ea_cons (er_x (ex_ix ix_seq n_idx k_idx (ec_x (ex_lst (ea_cons (es_x (ex_un un_neg n_neg k_neg (er_k e_int))) (ea_cons e_int (ea_cons (es_x (ex_op op_sub n_sub k_sub (er_x (ex_un un_neg n_neg k_neg (er_k e_int))) (v_rd 1))) (ea_cons (es_x (ex_op op_addU n_add k_add (ec_s e_int) (v_cn 1))) ea_nil)))))) (er_x (ex_op op_mod n_mod k_mod (er_x (ex_op op_fdiv n_div k_div (v_rd 0) (er_k e_int))) (er_k e_int))) (fun _ _ => rfl))) ea_nil)))))))))
abbrev s_Ldone : Stmt := topS 63
theorem sc_Ldone : FnScope N_Ldone ["way", "cell", "far"] (defScope s_Ldone) := ⟨rfl, rfl, rfl, by decide +kernel, rfl, by decide +kernel, by decide +kernel⟩
theorem ok_Ldone {P : Program} {w : World} {K : PySem.W.Frag} {mg : Str → Option Value} {base : Heap} {A : Nat → Addr} (D_ : Df K mg "_law_done" s_Ldone) (T : Tx K mg A) (C_LnoThings : Cal P w K mg base A 4 "_law_no_things" ["cell", "far"] F_LnoThings) (C_LnoSharing : Cal P w K mg base A 7 "_law_no_sharing" ["cell", "far"] F_LnoSharing) (C_marksOf : Cal P w K mg base A 2 "marks_of" ["shares"] F_marksOf) (C_LofTwo : Cal P w K mg base A 6 "_law_of_two" ["way", "one", "other"] F_LofTwo) (C_LnoThing : Cal P w K mg base A 4 "_law_no_thing" ["cell", "far"] F_LnoThing) (C_LnoNumber : Cal P w K mg base A 4 "_law_no_number" ["cell", "far"] F_LnoNumber) (C_wayBy : Cal P w K mg base A 3 "way_by" ["things", "pairs", "one", "other"] F_wayBy) (C_read : Cal P w K mg base A 4 "read" ["text"] F_read) : Cal P w K mg base A 8 "_law_done" ["way", "cell", "far"] F_Ldone :=
  df_cal (N := N_Ldone) D_ sc_Ldone (fun _ _ _ _ _ _ us hl => match us, hl with | [_, _, _], _ => rfl) fun f cdv A0 outer s H E ds hr => (show SB _ _ _ _ b_Ldone from (sb_one (sx_if (et_cmp (op_eqD hr.units) n_eq k_eq (v_rd 0) (er_k e_int) (nomark _)) (sb_one (sx_drop (c_callR C_LnoThings (hr.mono (by decide)) (takes_of rfl rfl rfl rfl) (ea_cons (v_rd 1) (ea_cons (v_rd 2) ea_nil))))) (sb_one (sx_if (et_cmp (op_eqD hr.units) n_eq k_eq (v_rd 0) (er_k e_int) (nomark _)) (sb_one (sx_drop (c_callR C_LnoSharing (hr.mono (by decide)) (takes_of rfl rfl rfl rfl) (ea_cons (v_rd 1) (ea_cons (v_rd 2) ea_nil))))) (sb_one (sx_if (et_cmp (op_eqD hr.units) n_eq k_eq (v_rd 0) (er_k e_int) (nomark _)) (sb_one (sx_drop (c_callR C_marksOf (hr.mono (by decide)) (takes_of rfl rfl rfl rfl) (ea_cons (er_x (ex_ix ix_seq n_idx k_idx (ec_x (ex_lst (ea_cons (es_x (ex_lst ea_nil)) (ea_cons (es_x (ex_lst (ea_cons (es_x (ex_lst ea_nil)) ea_nil))) (ea_cons (es_x (ex_lst (ea_cons (es_x (ex_lst (ea_cons e_int ea_nil))) (ea_cons (es_x (ex_lst (ea_cons e_int ea_nil))) ea_nil)))) (ea_cons (es_x (ex_lst (ea_cons (es_x (ex_lst (ea_cons e_int ea_nil))) ea_nil))) (ea_cons (es_x (ex_lst (ea_cons (es_x (ex_lst (ea_cons e_int (ea_cons e_int ea_nil)))) ea_nil))) (ea_cons (es_x (ex_lst (ea_cons (es_x (ex_lst (ea_cons e_int ea_nil))) (ea_cons (es_x (ex_lst (ea_cons (es_x (ex_op op_addU n_add k_add (ec_x (ex_op op_addU n_add k_add (ec_s e_int) (v_cn 2))) (ec_s e_int))) ea_nil))) ea_nil)))) (ea_cons (es_x (ex_lst (ea_cons (es_x (ex_lst (ea_cons e_int ea_nil))) (ea_cons (es_x (ex_lst ea_nil)) (ea_cons (es_x (ex_lst (ea_cons e_int ea_nil))) ea_nil))))) ea_nil))))))))) (er_x (ex_op op_mod n_mod k_mod (v_rd 1) (er_k e_int))) (fun _ _ => rfl))) ea_nil)))) (sb_one (sx_if (et_cmp (op_eqD hr.units) n_eq k_eq (v_rd 0) (er_k e_int) (nomark _)) (sb_one (sx_drop (c_callR C_LofTwo (hr.mono (by decide)) (takes_of rfl rfl rfl rfl) (ea_cons (er_x (ex_op op_mod n_mod k_mod (v_rd 1) (er_k e_int))) (ea_cons (er_x (ex_ix ix_seq n_idx k_idx (ec_x (ex_lst (ea_cons (es_x (ex_lst (ea_cons e_int (ea_cons e_int (ea_cons e_int ea_nil))))) (ea_cons (es_x (ex_lst (ea_cons e_int ea_nil))) ea_nil)))) (er_x (ex_op op_mod n_mod k_mod (er_x (ex_op op_fdiv n_div k_div (v_rd 1) (er_k e_int))) (er_k e_int))) (fun _ _ => rfl))) (ea_cons (er_x (ex_lst (ea_cons e_int (ea_cons e_int ea_nil)))) ea_nil)))))) (sb_one (sx_if (et_cmp (op_eqD hr.units) n_eq k_eq (v_rd 0) (er_k e_int) (nomark _)) (sb_one (sx_drop (c_callR C_LofTwo (hr.mono (by decide)) (takes_of rfl rfl rfl rfl) (ea_cons (er_x (ex_op op_addU n_add k_add (ec_s e_int) (ec_x (ex_op op_mod n_mod k_mod (v_rd 1) (er_k e_int))))) (ea_cons (er_x (ex_ix ix_seq n_idx k_idx (ec_x (ex_lst (ea_cons (es_x (ex_lst (ea_cons e_int (ea_cons e_int (ea_cons e_int ea_nil))))) (ea_cons (es_x (ex_lst (ea_cons e_int (ea_cons e_int (ea_cons e_int ea_nil))))) (ea_cons (es_x (ex_lst (ea_cons e_int (ea_cons e_int (ea_cons e_int ea_nil))))) ea_nil))))) (er_x (ex_op op_mod n_mod k_mod (er_x (ex_op op_fdiv n_div k_div (v_rd 1) (er_k e_int))) (er_k e_int))) (fun _ _ => rfl))) (ea_cons (er_x (ex_lst (ea_cons e_int (ea_cons e_int (ea_cons e_int ea_nil))))) ea_nil)))))) (sb_one (sx_if (et_cmp (op_eqD hr.units) n_eq k_eq (v_rd 0) (er_k e_int) (nomark _)) (sb_one (sx_drop (c_callR C_LnoThing (hr.mono (by decide)) (takes_of rfl rfl rfl rfl) (ea_cons (v_rd 1) (ea_cons (v_rd 2) ea_nil))))) (sb_one (sx_if (et_cmp (op_eqD hr.units) n_eq k_eq (v_rd 0) (er_k e_int) (nomark _)) (sb_one (sx_drop (c_callR C_LnoNumber (hr.mono (by decide)) (takes_of rfl rfl rfl rfl) (ea_cons (v_rd 1) (ea_cons (v_rd 2) ea_nil))))) (sb_one (sx_if (et_cmp (op_eqD hr.units) n_eq k_eq (v_rd 0) (er_k e_int) (nomark _)) (sb_one (sx_drop (c_callR C_wayBy (hr.mono (by decide)) (takes_of rfl rfl rfl rfl) (ea_cons (er_k e_int) (ea_cons (er_x (ex_lst (ea_cons (et_tup (ea_cons e_int (ea_cons e_int ea_nil))) (ea_cons (et_tup (ea_cons e_int (ea_cons e_int ea_nil))) (ea_cons (et_tup (ea_cons e_int (ea_cons e_int ea_nil))) ea_nil))))) (ea_cons (er_x (ex_op op_mod n_mod k_mod (v_rd 1) (er_k e_int))) (ea_cons (er_x (ex_op op_addU n_add k_add (ec_s e_int) (ec_x (ex_op op_mod n_mod k_mod (er_x (ex_op op_fdiv n_div k_div (v_rd 1) (er_k e_int))) (er_k e_int))))) ea_nil))))))) (sb_one (sx_drop (c_callR C_read (hr.mono (by decide)) (takes_of rfl rfl rfl rfl) (ea_cons (er_x (ex_ix ix_seq n_idx k_idx (ec_x (ex_lst (ea_cons e_str (ea_cons e_str (ea_cons e_str (ea_cons e_str (ea_cons e_str (ea_cons e_str (ea_cons e_str ea_nil))))))))) (er_x (ex_op op_mod n_mod k_mod (v_rd 1) (er_k e_int))) (fun _ _ => rfl))) ea_nil)))))))))))))))))))))
abbrev s_law : Stmt := topS 64
theorem sc_law : FnScope N_law ["script"] (defScope s_law) := ⟨rfl, rfl, rfl, by decide +kernel, rfl, by decide +kernel, by decide +kernel⟩
theorem okF_law {P : Program} {w : World} {K : PySem.W.Frag} {mg : Str → Option Value} {base : Heap} {A : Nat → Addr} {f : Addr} {fd : FuncData} (D_ : Fun K "law" "law" s_law f fd) (T : Tx K mg A) (C_LcellAt : Cal P w K mg base A 1 "_law_cell_at" ["script", "k"] F_LcellAt) (C_Ldone : Cal P w K mg base A 8 "_law_done" ["way", "cell", "far"] F_Ldone) (C_Lwhich : CalW P w K mg base A h_which "_law_which" ["e"]) : FnOk P w K mg base (L2.CX P w) 9 f fd ["script"] (spF K A F_law) :=
  fn_okF D_ sc_law fun cdv A0 outer s H E ds hr => (show SB _ _ _ _ b_law from (sb_cons (sx_set (i := 1) sc_law.nd rfl (by walk_at "loc") (ex_op op_mod n_mod k_mod (er_x (c_callR C_LcellAt (hr.mono (by decide)) (takes_of rfl rfl rfl rfl) (ea_cons (v_rd 0) (ea_cons (er_k e_int) ea_nil)))) (er_k e_int)))
  (sb_cons (sx_set (i := 2) sc_law.nd rfl (by walk_at "loc") (ex_op op_mod n_mod k_mod (er_x (c_callR C_LcellAt (hr.mono (by decide)) (takes_of rfl rfl rfl rfl) (ea_cons (v_rd 0) (ea_cons (er_k e_int) ea_nil)))) (er_x (ex_op op_pow n_pow k_pow (er_k e_int) (er_k e_int)))))
  (sb_cons (sx_set (i := 3) sc_law.nd rfl (by walk_at "loc") (ex_lst ea_nil))
  (sb_cons (sx_tryW (i := 3) (j := 4) (h := h_which) rfl rfl sc_law.nd rfl (by decide) rfl (takes_of rfl rfl rfl rfl) rfl T.x_ShareError.gC (emW T) (fun W_ pn_ xe_ tk_ pa_ => (sb_one (sx_drop (c_callR C_Ldone (hr.mono (by decide)) tk_ (ea_cons (v_rd 1) (ea_cons (er_x (c_callR C_LcellAt (hr.mono (by decide)) tk_ (ea_cons (v_rd 0) (ea_cons (er_k e_int) ea_nil)))) (ea_cons (v_rd 2) ea_nil))))))) (fun a oe c l pn hc hz hf => pss_one (ps_set sc_law.nd rfl (by walk_at "loc") (pe_callW C_Lwhich (roomW (hr.mono (j := 1) (by decide))) List.mem_cons_self hz hf hc rfl (by walk_at "vis") rfl))))
  (sb_one (sx_ret (ex_cmp (op_eqD hr.units) n_eq k_eq (v_rd 3) (er_x (ex_comp rfl sc_law.nd (ix_range1 rfl T.n_range (ea_cons (er_k e_int) ea_nil)) (blkOk_by (N := N_law) (sc := defScope s_law) (by decide +kernel)) (fun _ _ _ _ _ => pg_name (i := 5) sc_law.nd rfl (by walk_at "loc")) (fun _ _ _ _ _ => eif_nil) (fun _ _ _ _ _ => (es_x (ex_or (ex_cmp (op_eqD hr.units) n_eq k_eq (v_rd 5) (v_rd 1) (nomark _)) (ex_one (ex_cmp (op_eqD hr.units) n_eq k_eq (v_rd 5) (er_k e_int) (nomark _)))))))) (nomark _)))))))))
end Sh

namespace Sh
open PySem PySem.Spec PyProof.Rows L2
theorem all_mk {w : World} {K : PySem.W.Frag} {h : Heap} {mg : Str → Option Value} {fa : Addr} (X : K.In h) (G : h.Ns mainGlobals mg) (hfa : mg "law" = some (.ref fa))
    {f0 : Addr} {od0 an0 : Option Addr} {sl0 : Array (Option Value)} {oc0 kV0 dc0 pm0 cd0 ct0 : Value}
    (a0 : PySem.W.nsIn K mainGlobals "is_sharing" = some (some (.ref f0))) (l0 : K.lookup f0 = some ⟨oc0, od0, .func (PySem.W.fnOf "is_sharing" "is_sharing" (defArgs s_isSharing) (defBody s_isSharing) (defScope s_isSharing) .none kV0 dc0 pm0 an0 cd0 ct0), sl0⟩) (c0 : PySem.W.codeIn K cd0 "is_sharing" = true) (k0 : PySem.W.keepIn K (.ref f0) = true)
    {f1 : Addr} {od1 an1 : Option Addr} {sl1 : Array (Option Value)} {oc1 kV1 dc1 pm1 cd1 ct1 : Value}
    (a1 : PySem.W.nsIn K mainGlobals "ask" = some (some (.ref f1))) (l1 : K.lookup f1 = some ⟨oc1, od1, .func (PySem.W.fnOf "ask" "ask" (defArgs s_ask) (defBody s_ask) (defScope s_ask) .none kV1 dc1 pm1 an1 cd1 ct1), sl1⟩) (c1 : PySem.W.codeIn K cd1 "ask" = true) (k1 : PySem.W.keepIn K (.ref f1) = true)
    {f2 : Addr} {od2 an2 : Option Addr} {sl2 : Array (Option Value)} {oc2 kV2 dc2 pm2 cd2 ct2 : Value}
    (a2 : PySem.W.nsIn K mainGlobals "shares_by" = some (some (.ref f2))) (l2 : K.lookup f2 = some ⟨oc2, od2, .func (PySem.W.fnOf "shares_by" "shares_by" (defArgs s_sharesBy) (defBody s_sharesBy) (defScope s_sharesBy) .none kV2 dc2 pm2 an2 cd2 ct2), sl2⟩) (c2 : PySem.W.codeIn K cd2 "shares_by" = true) (k2 : PySem.W.keepIn K (.ref f2) = true)
    {f3 : Addr} {od3 an3 : Option Addr} {sl3 : Array (Option Value)} {oc3 kV3 dc3 pm3 cd3 ct3 : Value}
    (a3 : PySem.W.nsIn K mainGlobals "shares_of" = some (some (.ref f3))) (l3 : K.lookup f3 = some ⟨oc3, od3, .func (PySem.W.fnOf "shares_of" "shares_of" (defArgs s_sharesOf) (defBody s_sharesOf) (defScope s_sharesOf) .none kV3 dc3 pm3 an3 cd3 ct3), sl3⟩) (c3 : PySem.W.codeIn K cd3 "shares_of" = true) (k3 : PySem.W.keepIn K (.ref f3) = true)
    {f4 : Addr} {od4 an4 : Option Addr} {sl4 : Array (Option Value)} {oc4 kV4 dc4 pm4 cd4 ct4 : Value}
    (a4 : PySem.W.nsIn K mainGlobals "marked" = some (some (.ref f4))) (l4 : K.lookup f4 = some ⟨oc4, od4, .func (PySem.W.fnOf "marked" "marked" (defArgs s_marked) (defBody s_marked) (defScope s_marked) .none kV4 dc4 pm4 an4 cd4 ct4), sl4⟩) (c4 : PySem.W.codeIn K cd4 "marked" = true) (k4 : PySem.W.keepIn K (.ref f4) = true)
    {f5 : Addr} {od5 an5 : Option Addr} {sl5 : Array (Option Value)} {oc5 kV5 dc5 pm5 cd5 ct5 : Value}
    (a5 : PySem.W.nsIn K mainGlobals "marks_of" = some (some (.ref f5))) (l5 : K.lookup f5 = some ⟨oc5, od5, .func (PySem.W.fnOf "marks_of" "marks_of" (defArgs s_marksOf) (defBody s_marksOf) (defScope s_marksOf) .none kV5 dc5 pm5 an5 cd5 ct5), sl5⟩) (c5 : PySem.W.codeIn K cd5 "marks_of" = true) (k5 : PySem.W.keepIn K (.ref f5) = true)
    {f6 : Addr} {od6 an6 : Option Addr} {sl6 : Array (Option Value)} {oc6 kV6 dc6 pm6 cd6 ct6 : Value}
    (a6 : PySem.W.nsIn K mainGlobals "sizes" = some (some (.ref f6))) (l6 : K.lookup f6 = some ⟨oc6, od6, .func (PySem.W.fnOf "sizes" "sizes" (defArgs s_sizes) (defBody s_sizes) (defScope s_sizes) .none kV6 dc6 pm6 an6 cd6 ct6), sl6⟩) (c6 : PySem.W.codeIn K cd6 "sizes" = true) (k6 : PySem.W.keepIn K (.ref f6) = true)
    {f7 : Addr} {od7 an7 : Option Addr} {sl7 : Array (Option Value)} {oc7 kV7 dc7 pm7 cd7 ct7 : Value}
    (a7 : PySem.W.nsIn K mainGlobals "ask_both" = some (some (.ref f7))) (l7 : K.lookup f7 = some ⟨oc7, od7, .func (PySem.W.fnOf "ask_both" "ask_both" (defArgs s_askBoth) (defBody s_askBoth) (defScope s_askBoth) .none kV7 dc7 pm7 an7 cd7 ct7), sl7⟩) (c7 : PySem.W.codeIn K cd7 "ask_both" = true) (k7 : PySem.W.keepIn K (.ref f7) = true)
    {f8 : Addr} {od8 an8 : Option Addr} {sl8 : Array (Option Value)} {oc8 kV8 dc8 pm8 cd8 ct8 : Value}
    (a8 : PySem.W.nsIn K mainGlobals "finer_by" = some (some (.ref f8))) (l8 : K.lookup f8 = some ⟨oc8, od8, .func (PySem.W.fnOf "finer_by" "finer_by" (defArgs s_finerBy) (defBody s_finerBy) (defScope s_finerBy) .none kV8 dc8 pm8 an8 cd8 ct8), sl8⟩) (c8 : PySem.W.codeIn K cd8 "finer_by" = true) (k8 : PySem.W.keepIn K (.ref f8) = true)
    {f9 : Addr} {od9 an9 : Option Addr} {sl9 : Array (Option Value)} {oc9 kV9 dc9 pm9 cd9 ct9 : Value}
    (a9 : PySem.W.nsIn K mainGlobals "is_finer" = some (some (.ref f9))) (l9 : K.lookup f9 = some ⟨oc9, od9, .func (PySem.W.fnOf "is_finer" "is_finer" (defArgs s_isFiner) (defBody s_isFiner) (defScope s_isFiner) .none kV9 dc9 pm9 an9 cd9 ct9), sl9⟩) (c9 : PySem.W.codeIn K cd9 "is_finer" = true) (k9 : PySem.W.keepIn K (.ref f9) = true)
    {f10 : Addr} {od10 an10 : Option Addr} {sl10 : Array (Option Value)} {oc10 kV10 dc10 pm10 cd10 ct10 : Value}
    (a10 : PySem.W.nsIn K mainGlobals "meeting" = some (some (.ref f10))) (l10 : K.lookup f10 = some ⟨oc10, od10, .func (PySem.W.fnOf "meeting" "meeting" (defArgs s_meeting) (defBody s_meeting) (defScope s_meeting) .none kV10 dc10 pm10 an10 cd10 ct10), sl10⟩) (c10 : PySem.W.codeIn K cd10 "meeting" = true) (k10 : PySem.W.keepIn K (.ref f10) = true)
    {f11 : Addr} {od11 an11 : Option Addr} {sl11 : Array (Option Value)} {oc11 kV11 dc11 pm11 cd11 ct11 : Value}
    (a11 : PySem.W.nsIn K mainGlobals "merged" = some (some (.ref f11))) (l11 : K.lookup f11 = some ⟨oc11, od11, .func (PySem.W.fnOf "merged" "merged" (defArgs s_merged) (defBody s_merged) (defScope s_merged) .none kV11 dc11 pm11 an11 cd11 ct11), sl11⟩) (c11 : PySem.W.codeIn K cd11 "merged" = true) (k11 : PySem.W.keepIn K (.ref f11) = true)
    {f12 : Addr} {od12 an12 : Option Addr} {sl12 : Array (Option Value)} {oc12 kV12 dc12 pm12 cd12 ct12 : Value}
    (a12 : PySem.W.nsIn K mainGlobals "joining" = some (some (.ref f12))) (l12 : K.lookup f12 = some ⟨oc12, od12, .func (PySem.W.fnOf "joining" "joining" (defArgs s_joining) (defBody s_joining) (defScope s_joining) .none kV12 dc12 pm12 an12 cd12 ct12), sl12⟩) (c12 : PySem.W.codeIn K cd12 "joining" = true) (k12 : PySem.W.keepIn K (.ref f12) = true)
    {f13 : Addr} {od13 an13 : Option Addr} {sl13 : Array (Option Value)} {oc13 kV13 dc13 pm13 cd13 ct13 : Value}
    (a13 : PySem.W.nsIn K mainGlobals "ask_finer" = some (some (.ref f13))) (l13 : K.lookup f13 = some ⟨oc13, od13, .func (PySem.W.fnOf "ask_finer" "ask_finer" (defArgs s_askFiner) (defBody s_askFiner) (defScope s_askFiner) .none kV13 dc13 pm13 an13 cd13 ct13), sl13⟩) (c13 : PySem.W.codeIn K cd13 "ask_finer" = true) (k13 : PySem.W.keepIn K (.ref f13) = true)
    {f14 : Addr} {od14 an14 : Option Addr} {sl14 : Array (Option Value)} {oc14 kV14 dc14 pm14 cd14 ct14 : Value}
    (a14 : PySem.W.nsIn K mainGlobals "rise" = some (some (.ref f14))) (l14 : K.lookup f14 = some ⟨oc14, od14, .func (PySem.W.fnOf "rise" "rise" (defArgs s_rise) (defBody s_rise) (defScope s_rise) .none kV14 dc14 pm14 an14 cd14 ct14), sl14⟩) (c14 : PySem.W.codeIn K cd14 "rise" = true) (k14 : PySem.W.keepIn K (.ref f14) = true)
    {f15 : Addr} {od15 an15 : Option Addr} {sl15 : Array (Option Value)} {oc15 kV15 dc15 pm15 cd15 ct15 : Value}
    (a15 : PySem.W.nsIn K mainGlobals "parts" = some (some (.ref f15))) (l15 : K.lookup f15 = some ⟨oc15, od15, .func (PySem.W.fnOf "parts" "parts" (defArgs s_parts) (defBody s_parts) (defScope s_parts) .none kV15 dc15 pm15 an15 cd15 ct15), sl15⟩) (c15 : PySem.W.codeIn K cd15 "parts" = true) (k15 : PySem.W.keepIn K (.ref f15) = true)
    {f16 : Addr} {od16 an16 : Option Addr} {sl16 : Array (Option Value)} {oc16 kV16 dc16 pm16 cd16 ct16 : Value}
    (a16 : PySem.W.nsIn K mainGlobals "product_to" = some (some (.ref f16))) (l16 : K.lookup f16 = some ⟨oc16, od16, .func (PySem.W.fnOf "product_to" "product_to" (defArgs s_productTo) (defBody s_productTo) (defScope s_productTo) .none kV16 dc16 pm16 an16 cd16 ct16), sl16⟩) (c16 : PySem.W.codeIn K cd16 "product_to" = true) (k16 : PySem.W.keepIn K (.ref f16) = true)
    {f17 : Addr} {od17 an17 : Option Addr} {sl17 : Array (Option Value)} {oc17 kV17 dc17 pm17 cd17 ct17 : Value}
    (a17 : PySem.W.nsIn K mainGlobals "many_rises" = some (some (.ref f17))) (l17 : K.lookup f17 = some ⟨oc17, od17, .func (PySem.W.fnOf "many_rises" "many_rises" (defArgs s_manyRises) (defBody s_manyRises) (defScope s_manyRises) .none kV17 dc17 pm17 an17 cd17 ct17), sl17⟩) (c17 : PySem.W.codeIn K cd17 "many_rises" = true) (k17 : PySem.W.keepIn K (.ref f17) = true)
    {f18 : Addr} {od18 an18 : Option Addr} {sl18 : Array (Option Value)} {oc18 kV18 dc18 pm18 cd18 ct18 : Value}
    (a18 : PySem.W.nsIn K mainGlobals "signed" = some (some (.ref f18))) (l18 : K.lookup f18 = some ⟨oc18, od18, .func (PySem.W.fnOf "signed" "signed" (defArgs s_signed) (defBody s_signed) (defScope s_signed) .none kV18 dc18 pm18 an18 cd18 ct18), sl18⟩) (c18 : PySem.W.codeIn K cd18 "signed" = true) (k18 : PySem.W.keepIn K (.ref f18) = true)
    {f19 : Addr} {od19 an19 : Option Addr} {sl19 : Array (Option Value)} {oc19 kV19 dc19 pm19 cd19 ct19 : Value}
    (a19 : PySem.W.nsIn K mainGlobals "shown" = some (some (.ref f19))) (l19 : K.lookup f19 = some ⟨oc19, od19, .func (PySem.W.fnOf "shown" "shown" (defArgs s_shown) (defBody s_shown) (defScope s_shown) .none kV19 dc19 pm19 an19 cd19 ct19), sl19⟩) (c19 : PySem.W.codeIn K cd19 "shown" = true) (k19 : PySem.W.keepIn K (.ref f19) = true)
    {f20 : Addr} {od20 an20 : Option Addr} {sl20 : Array (Option Value)} {oc20 kV20 dc20 pm20 cd20 ct20 : Value}
    (a20 : PySem.W.nsIn K mainGlobals "thing_of" = some (some (.ref f20))) (l20 : K.lookup f20 = some ⟨oc20, od20, .func (PySem.W.fnOf "thing_of" "thing_of" (defArgs s_thingOf) (defBody s_thingOf) (defScope s_thingOf) .none kV20 dc20 pm20 an20 cd20 ct20), sl20⟩) (c20 : PySem.W.codeIn K cd20 "thing_of" = true) (k20 : PySem.W.keepIn K (.ref f20) = true)
    {f21 : Addr} {od21 an21 : Option Addr} {sl21 : Array (Option Value)} {oc21 kV21 dc21 pm21 cd21 ct21 : Value}
    (a21 : PySem.W.nsIn K mainGlobals "read" = some (some (.ref f21))) (l21 : K.lookup f21 = some ⟨oc21, od21, .func (PySem.W.fnOf "read" "read" (defArgs s_read) (defBody s_read) (defScope s_read) .none kV21 dc21 pm21 an21 cd21 ct21), sl21⟩) (c21 : PySem.W.codeIn K cd21 "read" = true) (k21 : PySem.W.keepIn K (.ref f21) = true)
    {f22 : Addr} {od22 an22 : Option Addr} {sl22 : Array (Option Value)} {oc22 kV22 dc22 pm22 cd22 ct22 : Value}
    (a22 : PySem.W.nsIn K mainGlobals "ask_things" = some (some (.ref f22))) (l22 : K.lookup f22 = some ⟨oc22, od22, .func (PySem.W.fnOf "ask_things" "ask_things" (defArgs s_askThings) (defBody s_askThings) (defScope s_askThings) .none kV22 dc22 pm22 an22 cd22 ct22), sl22⟩) (c22 : PySem.W.codeIn K cd22 "ask_things" = true) (k22 : PySem.W.keepIn K (.ref f22) = true)
    {f23 : Addr} {od23 an23 : Option Addr} {sl23 : Array (Option Value)} {oc23 kV23 dc23 pm23 cd23 ct23 : Value}
    (a23 : PySem.W.nsIn K mainGlobals "rest_counts" = some (some (.ref f23))) (l23 : K.lookup f23 = some ⟨oc23, od23, .func (PySem.W.fnOf "rest_counts" "rest_counts" (defArgs s_restCounts) (defBody s_restCounts) (defScope s_restCounts) .none kV23 dc23 pm23 an23 cd23 ct23), sl23⟩) (c23 : PySem.W.codeIn K cd23 "rest_counts" = true) (k23 : PySem.W.keepIn K (.ref f23) = true)
    {f24 : Addr} {od24 an24 : Option Addr} {sl24 : Array (Option Value)} {oc24 kV24 dc24 pm24 cd24 ct24 : Value}
    (a24 : PySem.W.nsIn K mainGlobals "many" = some (some (.ref f24))) (l24 : K.lookup f24 = some ⟨oc24, od24, .func (PySem.W.fnOf "many" "many" (defArgs s_many) (defBody s_many) (defScope s_many) .none kV24 dc24 pm24 an24 cd24 ct24), sl24⟩) (c24 : PySem.W.codeIn K cd24 "many" = true) (k24 : PySem.W.keepIn K (.ref f24) = true)
    {f25 : Addr} {od25 an25 : Option Addr} {sl25 : Array (Option Value)} {oc25 kV25 dc25 pm25 cd25 ct25 : Value}
    (a25 : PySem.W.nsIn K mainGlobals "many_with" = some (some (.ref f25))) (l25 : K.lookup f25 = some ⟨oc25, od25, .func (PySem.W.fnOf "many_with" "many_with" (defArgs s_manyWith) (defBody s_manyWith) (defScope s_manyWith) .none kV25 dc25 pm25 an25 cd25 ct25), sl25⟩) (c25 : PySem.W.codeIn K cd25 "many_with" = true) (k25 : PySem.W.keepIn K (.ref f25) = true)
    {f26 : Addr} {od26 an26 : Option Addr} {sl26 : Array (Option Value)} {oc26 kV26 dc26 pm26 cd26 ct26 : Value}
    (a26 : PySem.W.nsIn K mainGlobals "sharing_at" = some (some (.ref f26))) (l26 : K.lookup f26 = some ⟨oc26, od26, .func (PySem.W.fnOf "sharing_at" "sharing_at" (defArgs s_sharingAt) (defBody s_sharingAt) (defScope s_sharingAt) .none kV26 dc26 pm26 an26 cd26 ct26), sl26⟩) (c26 : PySem.W.codeIn K cd26 "sharing_at" = true) (k26 : PySem.W.keepIn K (.ref f26) = true)
    {f27 : Addr} {od27 an27 : Option Addr} {sl27 : Array (Option Value)} {oc27 kV27 dc27 pm27 cd27 ct27 : Value}
    (a27 : PySem.W.nsIn K mainGlobals "number_of" = some (some (.ref f27))) (l27 : K.lookup f27 = some ⟨oc27, od27, .func (PySem.W.fnOf "number_of" "number_of" (defArgs s_numberOf) (defBody s_numberOf) (defScope s_numberOf) .none kV27 dc27 pm27 an27 cd27 ct27), sl27⟩) (c27 : PySem.W.codeIn K cd27 "number_of" = true) (k27 : PySem.W.keepIn K (.ref f27) = true)
    {f28 : Addr} {od28 an28 : Option Addr} {sl28 : Array (Option Value)} {oc28 kV28 dc28 pm28 cd28 ct28 : Value}
    (a28 : PySem.W.nsIn K mainGlobals "many_finer" = some (some (.ref f28))) (l28 : K.lookup f28 = some ⟨oc28, od28, .func (PySem.W.fnOf "many_finer" "many_finer" (defArgs s_manyFiner) (defBody s_manyFiner) (defScope s_manyFiner) .none kV28 dc28 pm28 an28 cd28 ct28), sl28⟩) (c28 : PySem.W.codeIn K cd28 "many_finer" = true) (k28 : PySem.W.keepIn K (.ref f28) = true)
    {f29 : Addr} {od29 an29 : Option Addr} {sl29 : Array (Option Value)} {oc29 kV29 dc29 pm29 cd29 ct29 : Value}
    (a29 : PySem.W.nsIn K mainGlobals "many_coarser" = some (some (.ref f29))) (l29 : K.lookup f29 = some ⟨oc29, od29, .func (PySem.W.fnOf "many_coarser" "many_coarser" (defArgs s_manyCoarser) (defBody s_manyCoarser) (defScope s_manyCoarser) .none kV29 dc29 pm29 an29 cd29 ct29), sl29⟩) (c29 : PySem.W.codeIn K cd29 "many_coarser" = true) (k29 : PySem.W.keepIn K (.ref f29) = true)
    {f30 : Addr} {od30 an30 : Option Addr} {sl30 : Array (Option Value)} {oc30 kV30 dc30 pm30 cd30 ct30 : Value}
    (a30 : PySem.W.nsIn K mainGlobals "ask_pairs" = some (some (.ref f30))) (l30 : K.lookup f30 = some ⟨oc30, od30, .func (PySem.W.fnOf "ask_pairs" "ask_pairs" (defArgs s_askPairs) (defBody s_askPairs) (defScope s_askPairs) .none kV30 dc30 pm30 an30 cd30 ct30), sl30⟩) (c30 : PySem.W.codeIn K cd30 "ask_pairs" = true) (k30 : PySem.W.keepIn K (.ref f30) = true)
    {f31 : Addr} {od31 an31 : Option Addr} {sl31 : Array (Option Value)} {oc31 kV31 dc31 pm31 cd31 ct31 : Value}
    (a31 : PySem.W.nsIn K mainGlobals "names_by" = some (some (.ref f31))) (l31 : K.lookup f31 = some ⟨oc31, od31, .func (PySem.W.fnOf "names_by" "names_by" (defArgs s_namesBy) (defBody s_namesBy) (defScope s_namesBy) .none kV31 dc31 pm31 an31 cd31 ct31), sl31⟩) (c31 : PySem.W.codeIn K cd31 "names_by" = true) (k31 : PySem.W.keepIn K (.ref f31) = true)
    {f32 : Addr} {od32 an32 : Option Addr} {sl32 : Array (Option Value)} {oc32 kV32 dc32 pm32 cd32 ct32 : Value}
    (a32 : PySem.W.nsIn K mainGlobals "sharing_of" = some (some (.ref f32))) (l32 : K.lookup f32 = some ⟨oc32, od32, .func (PySem.W.fnOf "sharing_of" "sharing_of" (defArgs s_sharingOf) (defBody s_sharingOf) (defScope s_sharingOf) .none kV32 dc32 pm32 an32 cd32 ct32), sl32⟩) (c32 : PySem.W.codeIn K cd32 "sharing_of" = true) (k32 : PySem.W.keepIn K (.ref f32) = true)
    {f33 : Addr} {od33 an33 : Option Addr} {sl33 : Array (Option Value)} {oc33 kV33 dc33 pm33 cd33 ct33 : Value}
    (a33 : PySem.W.nsIn K mainGlobals "other_of" = some (some (.ref f33))) (l33 : K.lookup f33 = some ⟨oc33, od33, .func (PySem.W.fnOf "other_of" "other_of" (defArgs s_otherOf) (defBody s_otherOf) (defScope s_otherOf) .none kV33 dc33 pm33 an33 cd33 ct33), sl33⟩) (c33 : PySem.W.codeIn K cd33 "other_of" = true) (k33 : PySem.W.keepIn K (.ref f33) = true)
    {f34 : Addr} {od34 an34 : Option Addr} {sl34 : Array (Option Value)} {oc34 kV34 dc34 pm34 cd34 ct34 : Value}
    (a34 : PySem.W.nsIn K mainGlobals "found_way" = some (some (.ref f34))) (l34 : K.lookup f34 = some ⟨oc34, od34, .func (PySem.W.fnOf "found_way" "found_way" (defArgs s_foundWay) (defBody s_foundWay) (defScope s_foundWay) .none kV34 dc34 pm34 an34 cd34 ct34), sl34⟩) (c34 : PySem.W.codeIn K cd34 "found_way" = true) (k34 : PySem.W.keepIn K (.ref f34) = true)
    {f35 : Addr} {od35 an35 : Option Addr} {sl35 : Array (Option Value)} {oc35 kV35 dc35 pm35 cd35 ct35 : Value}
    (a35 : PySem.W.nsIn K mainGlobals "way_by" = some (some (.ref f35))) (l35 : K.lookup f35 = some ⟨oc35, od35, .func (PySem.W.fnOf "way_by" "way_by" (defArgs s_wayBy) (defBody s_wayBy) (defScope s_wayBy) .none kV35 dc35 pm35 an35 cd35 ct35), sl35⟩) (c35 : PySem.W.codeIn K cd35 "way_by" = true) (k35 : PySem.W.keepIn K (.ref f35) = true)
    {f36 : Addr} {od36 an36 : Option Addr} {sl36 : Array (Option Value)} {oc36 kV36 dc36 pm36 cd36 ct36 : Value}
    (a36 : PySem.W.nsIn K mainGlobals "judged" = some (some (.ref f36))) (l36 : K.lookup f36 = some ⟨oc36, od36, .func (PySem.W.fnOf "judged" "judged" (defArgs s_judged) (defBody s_judged) (defScope s_judged) .none kV36 dc36 pm36 an36 cd36 ct36), sl36⟩) (c36 : PySem.W.codeIn K cd36 "judged" = true) (k36 : PySem.W.keepIn K (.ref f36) = true)
    {f37 : Addr} {od37 an37 : Option Addr} {sl37 : Array (Option Value)} {oc37 kV37 dc37 pm37 cd37 ct37 : Value}
    (a37 : PySem.W.nsIn K mainGlobals "_law_cell_at" = some (some (.ref f37))) (l37 : K.lookup f37 = some ⟨oc37, od37, .func (PySem.W.fnOf "_law_cell_at" "_law_cell_at" (defArgs s_LcellAt) (defBody s_LcellAt) (defScope s_LcellAt) .none kV37 dc37 pm37 an37 cd37 ct37), sl37⟩) (c37 : PySem.W.codeIn K cd37 "_law_cell_at" = true) (k37 : PySem.W.keepIn K (.ref f37) = true)
    {f38 : Addr} {od38 an38 : Option Addr} {sl38 : Array (Option Value)} {oc38 kV38 dc38 pm38 cd38 ct38 : Value}
    (a38 : PySem.W.nsIn K mainGlobals "_law_which" = some (some (.ref f38))) (l38 : K.lookup f38 = some ⟨oc38, od38, .func (PySem.W.fnOf "_law_which" "_law_which" (defArgs s_Lwhich) (defBody s_Lwhich) (defScope s_Lwhich) .none kV38 dc38 pm38 an38 cd38 ct38), sl38⟩) (c38 : PySem.W.codeIn K cd38 "_law_which" = true) (k38 : PySem.W.keepIn K (.ref f38) = true)
    {f39 : Addr} {od39 an39 : Option Addr} {sl39 : Array (Option Value)} {oc39 kV39 dc39 pm39 cd39 ct39 : Value}
    (a39 : PySem.W.nsIn K mainGlobals "_law_of_two" = some (some (.ref f39))) (l39 : K.lookup f39 = some ⟨oc39, od39, .func (PySem.W.fnOf "_law_of_two" "_law_of_two" (defArgs s_LofTwo) (defBody s_LofTwo) (defScope s_LofTwo) .none kV39 dc39 pm39 an39 cd39 ct39), sl39⟩) (c39 : PySem.W.codeIn K cd39 "_law_of_two" = true) (k39 : PySem.W.keepIn K (.ref f39) = true)
    {f40 : Addr} {od40 an40 : Option Addr} {sl40 : Array (Option Value)} {oc40 kV40 dc40 pm40 cd40 ct40 : Value}
    (a40 : PySem.W.nsIn K mainGlobals "_law_no_things" = some (some (.ref f40))) (l40 : K.lookup f40 = some ⟨oc40, od40, .func (PySem.W.fnOf "_law_no_things" "_law_no_things" (defArgs s_LnoThings) (defBody s_LnoThings) (defScope s_LnoThings) .none kV40 dc40 pm40 an40 cd40 ct40), sl40⟩) (c40 : PySem.W.codeIn K cd40 "_law_no_things" = true) (k40 : PySem.W.keepIn K (.ref f40) = true)
    {f41 : Addr} {od41 an41 : Option Addr} {sl41 : Array (Option Value)} {oc41 kV41 dc41 pm41 cd41 ct41 : Value}
    (a41 : PySem.W.nsIn K mainGlobals "_law_no_sharing" = some (some (.ref f41))) (l41 : K.lookup f41 = some ⟨oc41, od41, .func (PySem.W.fnOf "_law_no_sharing" "_law_no_sharing" (defArgs s_LnoSharing) (defBody s_LnoSharing) (defScope s_LnoSharing) .none kV41 dc41 pm41 an41 cd41 ct41), sl41⟩) (c41 : PySem.W.codeIn K cd41 "_law_no_sharing" = true) (k41 : PySem.W.keepIn K (.ref f41) = true)
    {f42 : Addr} {od42 an42 : Option Addr} {sl42 : Array (Option Value)} {oc42 kV42 dc42 pm42 cd42 ct42 : Value}
    (a42 : PySem.W.nsIn K mainGlobals "_law_no_thing" = some (some (.ref f42))) (l42 : K.lookup f42 = some ⟨oc42, od42, .func (PySem.W.fnOf "_law_no_thing" "_law_no_thing" (defArgs s_LnoThing) (defBody s_LnoThing) (defScope s_LnoThing) .none kV42 dc42 pm42 an42 cd42 ct42), sl42⟩) (c42 : PySem.W.codeIn K cd42 "_law_no_thing" = true) (k42 : PySem.W.keepIn K (.ref f42) = true)
    {f43 : Addr} {od43 an43 : Option Addr} {sl43 : Array (Option Value)} {oc43 kV43 dc43 pm43 cd43 ct43 : Value}
    (a43 : PySem.W.nsIn K mainGlobals "_law_no_number" = some (some (.ref f43))) (l43 : K.lookup f43 = some ⟨oc43, od43, .func (PySem.W.fnOf "_law_no_number" "_law_no_number" (defArgs s_LnoNumber) (defBody s_LnoNumber) (defScope s_LnoNumber) .none kV43 dc43 pm43 an43 cd43 ct43), sl43⟩) (c43 : PySem.W.codeIn K cd43 "_law_no_number" = true) (k43 : PySem.W.keepIn K (.ref f43) = true)
    {f44 : Addr} {od44 an44 : Option Addr} {sl44 : Array (Option Value)} {oc44 kV44 dc44 pm44 cd44 ct44 : Value}
    (a44 : PySem.W.nsIn K mainGlobals "_law_done" = some (some (.ref f44))) (l44 : K.lookup f44 = some ⟨oc44, od44, .func (PySem.W.fnOf "_law_done" "_law_done" (defArgs s_Ldone) (defBody s_Ldone) (defScope s_Ldone) .none kV44 dc44 pm44 an44 cd44 ct44), sl44⟩) (c44 : PySem.W.codeIn K cd44 "_law_done" = true) (k44 : PySem.W.keepIn K (.ref f44) = true)
    {f45 : Addr} {od45 an45 : Option Addr} {sl45 : Array (Option Value)} {oc45 kV45 dc45 pm45 cd45 ct45 : Value}
    (a45 : PySem.W.nsIn K mainGlobals "law" = some (some (.ref f45))) (l45 : K.lookup f45 = some ⟨oc45, od45, .func (PySem.W.fnOf "law" "law" (defArgs s_law) (defBody s_law) (defScope s_law) .none kV45 dc45 pm45 an45 cd45 ct45), sl45⟩) (c45 : PySem.W.codeIn K cd45 "law" = true) (k45 : PySem.W.keepIn K (.ref f45) = true)
    (z_ValueError : PySem.W.nsIn K mainGlobals "ValueError" = some none)
    (z_int : PySem.W.nsIn K mainGlobals "int" = some none)
    (z_isinstance : PySem.W.nsIn K mainGlobals "isinstance" = some none)
    (z_len : PySem.W.nsIn K mainGlobals "len" = some none)
    (z_list : PySem.W.nsIn K mainGlobals "list" = some none)
    (z_max : PySem.W.nsIn K mainGlobals "max" = some none)
    (z_min : PySem.W.nsIn K mainGlobals "min" = some none)
    (z_range : PySem.W.nsIn K mainGlobals "range" = some none)
    (z_reversed : PySem.W.nsIn K mainGlobals "reversed" = some none)
    (z_set : PySem.W.nsIn K mainGlobals "set" = some none)
    (z_sorted : PySem.W.nsIn K mainGlobals "sorted" = some none)
    (z_str : PySem.W.nsIn K mainGlobals "str" = some none)
    (z_sum : PySem.W.nsIn K mainGlobals "sum" = some none)
    {t_MOST} (g_MOST : PySem.W.nsIn K mainGlobals "MOST" = some (some (.int 12 t_MOST)))
    {t_FIGURES} (g_FIGURES : PySem.W.nsIn K mainGlobals "FIGURES" = some (some (.str "0123456789" t_FIGURES)))
    {X_NoThings : Addr} (xa_NoThings : PySem.W.nsIn K mainGlobals "NoThings" = some (some (.ref X_NoThings))) (xx_NoThings : PySem.W.excIn K X_NoThings [.type "ValueError", .type "Exception", .type "BaseException", .type "object"] "ValueError.__new__" = true) (xk_NoThings : PySem.W.keepIn K (.ref X_NoThings) = true) (xb_NoThings : PySem.W.subIn K (.ref X_NoThings) (.type "BaseException") = some true) (xt_NoThings : PySem.W.typeIn K (.ref X_NoThings) = some (.type "type"))
    {X_NoSharing : Addr} (xa_NoSharing : PySem.W.nsIn K mainGlobals "NoSharing" = some (some (.ref X_NoSharing))) (xx_NoSharing : PySem.W.excIn K X_NoSharing [.type "ValueError", .type "Exception", .type "BaseException", .type "object"] "ValueError.__new__" = true) (xk_NoSharing : PySem.W.keepIn K (.ref X_NoSharing) = true) (xb_NoSharing : PySem.W.subIn K (.ref X_NoSharing) (.type "BaseException") = some true) (xt_NoSharing : PySem.W.typeIn K (.ref X_NoSharing) = some (.type "type"))
    {X_NoShares : Addr} (xa_NoShares : PySem.W.nsIn K mainGlobals "NoShares" = some (some (.ref X_NoShares))) (xx_NoShares : PySem.W.excIn K X_NoShares [.type "ValueError", .type "Exception", .type "BaseException", .type "object"] "ValueError.__new__" = true) (xk_NoShares : PySem.W.keepIn K (.ref X_NoShares) = true) (xb_NoShares : PySem.W.subIn K (.ref X_NoShares) (.type "BaseException") = some true) (xt_NoShares : PySem.W.typeIn K (.ref X_NoShares) = some (.type "type"))
    {X_Unlike : Addr} (xa_Unlike : PySem.W.nsIn K mainGlobals "Unlike" = some (some (.ref X_Unlike))) (xx_Unlike : PySem.W.excIn K X_Unlike [.type "ValueError", .type "Exception", .type "BaseException", .type "object"] "ValueError.__new__" = true) (xk_Unlike : PySem.W.keepIn K (.ref X_Unlike) = true) (xb_Unlike : PySem.W.subIn K (.ref X_Unlike) (.type "BaseException") = some true) (xt_Unlike : PySem.W.typeIn K (.ref X_Unlike) = some (.type "type"))
    {X_NotFiner : Addr} (xa_NotFiner : PySem.W.nsIn K mainGlobals "NotFiner" = some (some (.ref X_NotFiner))) (xx_NotFiner : PySem.W.excIn K X_NotFiner [.type "ValueError", .type "Exception", .type "BaseException", .type "object"] "ValueError.__new__" = true) (xk_NotFiner : PySem.W.keepIn K (.ref X_NotFiner) = true) (xb_NotFiner : PySem.W.subIn K (.ref X_NotFiner) (.type "BaseException") = some true) (xt_NotFiner : PySem.W.typeIn K (.ref X_NotFiner) = some (.type "type"))
    {X_NoThing : Addr} (xa_NoThing : PySem.W.nsIn K mainGlobals "NoThing" = some (some (.ref X_NoThing))) (xx_NoThing : PySem.W.excIn K X_NoThing [.type "ValueError", .type "Exception", .type "BaseException", .type "object"] "ValueError.__new__" = true) (xk_NoThing : PySem.W.keepIn K (.ref X_NoThing) = true) (xb_NoThing : PySem.W.subIn K (.ref X_NoThing) (.type "BaseException") = some true) (xt_NoThing : PySem.W.typeIn K (.ref X_NoThing) = some (.type "type"))
    {X_NoNumber : Addr} (xa_NoNumber : PySem.W.nsIn K mainGlobals "NoNumber" = some (some (.ref X_NoNumber))) (xx_NoNumber : PySem.W.excIn K X_NoNumber [.type "ValueError", .type "Exception", .type "BaseException", .type "object"] "ValueError.__new__" = true) (xk_NoNumber : PySem.W.keepIn K (.ref X_NoNumber) = true) (xb_NoNumber : PySem.W.subIn K (.ref X_NoNumber) (.type "BaseException") = some true) (xt_NoNumber : PySem.W.typeIn K (.ref X_NoNumber) = some (.type "type"))
    {X_NoWay : Addr} (xa_NoWay : PySem.W.nsIn K mainGlobals "NoWay" = some (some (.ref X_NoWay))) (xx_NoWay : PySem.W.excIn K X_NoWay [.type "ValueError", .type "Exception", .type "BaseException", .type "object"] "ValueError.__new__" = true) (xk_NoWay : PySem.W.keepIn K (.ref X_NoWay) = true) (xb_NoWay : PySem.W.subIn K (.ref X_NoWay) (.type "BaseException") = some true) (xt_NoWay : PySem.W.typeIn K (.ref X_NoWay) = some (.type "type"))
    {X_NotRead : Addr} (xa_NotRead : PySem.W.nsIn K mainGlobals "NotRead" = some (some (.ref X_NotRead))) (xx_NotRead : PySem.W.excIn K X_NotRead [.type "ValueError", .type "Exception", .type "BaseException", .type "object"] "ValueError.__new__" = true) (xk_NotRead : PySem.W.keepIn K (.ref X_NotRead) = true) (xb_NotRead : PySem.W.subIn K (.ref X_NotRead) (.type "BaseException") = some true) (xt_NotRead : PySem.W.typeIn K (.ref X_NotRead) = some (.type "type"))
    {X_ShareError : Addr} (xa_ShareError : PySem.W.nsIn K mainGlobals "ShareError" = some (some (.ref X_ShareError))) (xx_ShareError : PySem.W.excIn K X_ShareError [.type "ValueError", .type "Exception", .type "BaseException", .type "object"] "ValueError.__new__" = true) (xk_ShareError : PySem.W.keepIn K (.ref X_ShareError) = true) (xb_ShareError : PySem.W.subIn K (.ref X_ShareError) (.type "BaseException") = some true) (xt_ShareError : PySem.W.typeIn K (.ref X_ShareError) = some (.type "type"))
    (weg_NoThings : PySem.W.findIn K (.ref X_NoThings) "__getattribute__" = some (some (.builtin "BaseException.__getattribute__")))
    (wek_NoThings : PySem.W.findIn K (.ref X_NoThings) "__getattr__" = some none)
    (wed_NoThings : PySem.W.hasDictIn K X_NoThings = true)
    (wea_NoThings : PySem.W.findIn K (.ref X_NoThings) "__class__" = some (some (.builtin "object.__class__")))
    (wem_NoThings : PySem.W.mroIn K X_NoThings (.type "object") = some true)
    (wes_NoThings : PySem.W.subIn K (.ref X_NoThings) (.ref X_ShareError) = some true)
    (wkv_NoThings : PySem.W.kitOne K (.ref X_NoThings) (.type "ValueError") = some true)
    (wk0_NoThings : PySem.W.kitOne K (.ref X_NoThings) (.ref X_NoThings) = some true)
    (wk1_NoThings : PySem.W.kitOne K (.ref X_NoThings) (.ref X_NoSharing) = some false)
    (wk2_NoThings : PySem.W.kitOne K (.ref X_NoThings) (.ref X_NoShares) = some false)
    (wk3_NoThings : PySem.W.kitOne K (.ref X_NoThings) (.ref X_Unlike) = some false)
    (wk4_NoThings : PySem.W.kitOne K (.ref X_NoThings) (.ref X_NotFiner) = some false)
    (wk5_NoThings : PySem.W.kitOne K (.ref X_NoThings) (.ref X_NoThing) = some false)
    (wk6_NoThings : PySem.W.kitOne K (.ref X_NoThings) (.ref X_NoNumber) = some false)
    (wk7_NoThings : PySem.W.kitOne K (.ref X_NoThings) (.ref X_NoWay) = some false)
    (wk8_NoThings : PySem.W.kitOne K (.ref X_NoThings) (.ref X_NotRead) = some false)
    (weg_NoSharing : PySem.W.findIn K (.ref X_NoSharing) "__getattribute__" = some (some (.builtin "BaseException.__getattribute__")))
    (wek_NoSharing : PySem.W.findIn K (.ref X_NoSharing) "__getattr__" = some none)
    (wed_NoSharing : PySem.W.hasDictIn K X_NoSharing = true)
    (wea_NoSharing : PySem.W.findIn K (.ref X_NoSharing) "__class__" = some (some (.builtin "object.__class__")))
    (wem_NoSharing : PySem.W.mroIn K X_NoSharing (.type "object") = some true)
    (wes_NoSharing : PySem.W.subIn K (.ref X_NoSharing) (.ref X_ShareError) = some true)
    (wkv_NoSharing : PySem.W.kitOne K (.ref X_NoSharing) (.type "ValueError") = some true)
    (wk0_NoSharing : PySem.W.kitOne K (.ref X_NoSharing) (.ref X_NoThings) = some false)
    (wk1_NoSharing : PySem.W.kitOne K (.ref X_NoSharing) (.ref X_NoSharing) = some true)
    (wk2_NoSharing : PySem.W.kitOne K (.ref X_NoSharing) (.ref X_NoShares) = some false)
    (wk3_NoSharing : PySem.W.kitOne K (.ref X_NoSharing) (.ref X_Unlike) = some false)
    (wk4_NoSharing : PySem.W.kitOne K (.ref X_NoSharing) (.ref X_NotFiner) = some false)
    (wk5_NoSharing : PySem.W.kitOne K (.ref X_NoSharing) (.ref X_NoThing) = some false)
    (wk6_NoSharing : PySem.W.kitOne K (.ref X_NoSharing) (.ref X_NoNumber) = some false)
    (wk7_NoSharing : PySem.W.kitOne K (.ref X_NoSharing) (.ref X_NoWay) = some false)
    (wk8_NoSharing : PySem.W.kitOne K (.ref X_NoSharing) (.ref X_NotRead) = some false)
    (weg_NoShares : PySem.W.findIn K (.ref X_NoShares) "__getattribute__" = some (some (.builtin "BaseException.__getattribute__")))
    (wek_NoShares : PySem.W.findIn K (.ref X_NoShares) "__getattr__" = some none)
    (wed_NoShares : PySem.W.hasDictIn K X_NoShares = true)
    (wea_NoShares : PySem.W.findIn K (.ref X_NoShares) "__class__" = some (some (.builtin "object.__class__")))
    (wem_NoShares : PySem.W.mroIn K X_NoShares (.type "object") = some true)
    (wes_NoShares : PySem.W.subIn K (.ref X_NoShares) (.ref X_ShareError) = some true)
    (wkv_NoShares : PySem.W.kitOne K (.ref X_NoShares) (.type "ValueError") = some true)
    (wk0_NoShares : PySem.W.kitOne K (.ref X_NoShares) (.ref X_NoThings) = some false)
    (wk1_NoShares : PySem.W.kitOne K (.ref X_NoShares) (.ref X_NoSharing) = some false)
    (wk2_NoShares : PySem.W.kitOne K (.ref X_NoShares) (.ref X_NoShares) = some true)
    (wk3_NoShares : PySem.W.kitOne K (.ref X_NoShares) (.ref X_Unlike) = some false)
    (wk4_NoShares : PySem.W.kitOne K (.ref X_NoShares) (.ref X_NotFiner) = some false)
    (wk5_NoShares : PySem.W.kitOne K (.ref X_NoShares) (.ref X_NoThing) = some false)
    (wk6_NoShares : PySem.W.kitOne K (.ref X_NoShares) (.ref X_NoNumber) = some false)
    (wk7_NoShares : PySem.W.kitOne K (.ref X_NoShares) (.ref X_NoWay) = some false)
    (wk8_NoShares : PySem.W.kitOne K (.ref X_NoShares) (.ref X_NotRead) = some false)
    (weg_Unlike : PySem.W.findIn K (.ref X_Unlike) "__getattribute__" = some (some (.builtin "BaseException.__getattribute__")))
    (wek_Unlike : PySem.W.findIn K (.ref X_Unlike) "__getattr__" = some none)
    (wed_Unlike : PySem.W.hasDictIn K X_Unlike = true)
    (wea_Unlike : PySem.W.findIn K (.ref X_Unlike) "__class__" = some (some (.builtin "object.__class__")))
    (wem_Unlike : PySem.W.mroIn K X_Unlike (.type "object") = some true)
    (wes_Unlike : PySem.W.subIn K (.ref X_Unlike) (.ref X_ShareError) = some true)
    (wkv_Unlike : PySem.W.kitOne K (.ref X_Unlike) (.type "ValueError") = some true)
    (wk0_Unlike : PySem.W.kitOne K (.ref X_Unlike) (.ref X_NoThings) = some false)
    (wk1_Unlike : PySem.W.kitOne K (.ref X_Unlike) (.ref X_NoSharing) = some false)
    (wk2_Unlike : PySem.W.kitOne K (.ref X_Unlike) (.ref X_NoShares) = some false)
    (wk3_Unlike : PySem.W.kitOne K (.ref X_Unlike) (.ref X_Unlike) = some true)
    (wk4_Unlike : PySem.W.kitOne K (.ref X_Unlike) (.ref X_NotFiner) = some false)
    (wk5_Unlike : PySem.W.kitOne K (.ref X_Unlike) (.ref X_NoThing) = some false)
    (wk6_Unlike : PySem.W.kitOne K (.ref X_Unlike) (.ref X_NoNumber) = some false)
    (wk7_Unlike : PySem.W.kitOne K (.ref X_Unlike) (.ref X_NoWay) = some false)
    (wk8_Unlike : PySem.W.kitOne K (.ref X_Unlike) (.ref X_NotRead) = some false)
    (weg_NotFiner : PySem.W.findIn K (.ref X_NotFiner) "__getattribute__" = some (some (.builtin "BaseException.__getattribute__")))
    (wek_NotFiner : PySem.W.findIn K (.ref X_NotFiner) "__getattr__" = some none)
    (wed_NotFiner : PySem.W.hasDictIn K X_NotFiner = true)
    (wea_NotFiner : PySem.W.findIn K (.ref X_NotFiner) "__class__" = some (some (.builtin "object.__class__")))
    (wem_NotFiner : PySem.W.mroIn K X_NotFiner (.type "object") = some true)
    (wes_NotFiner : PySem.W.subIn K (.ref X_NotFiner) (.ref X_ShareError) = some true)
    (wkv_NotFiner : PySem.W.kitOne K (.ref X_NotFiner) (.type "ValueError") = some true)
    (wk0_NotFiner : PySem.W.kitOne K (.ref X_NotFiner) (.ref X_NoThings) = some false)
    (wk1_NotFiner : PySem.W.kitOne K (.ref X_NotFiner) (.ref X_NoSharing) = some false)
    (wk2_NotFiner : PySem.W.kitOne K (.ref X_NotFiner) (.ref X_NoShares) = some false)
    (wk3_NotFiner : PySem.W.kitOne K (.ref X_NotFiner) (.ref X_Unlike) = some false)
    (wk4_NotFiner : PySem.W.kitOne K (.ref X_NotFiner) (.ref X_NotFiner) = some true)
    (wk5_NotFiner : PySem.W.kitOne K (.ref X_NotFiner) (.ref X_NoThing) = some false)
    (wk6_NotFiner : PySem.W.kitOne K (.ref X_NotFiner) (.ref X_NoNumber) = some false)
    (wk7_NotFiner : PySem.W.kitOne K (.ref X_NotFiner) (.ref X_NoWay) = some false)
    (wk8_NotFiner : PySem.W.kitOne K (.ref X_NotFiner) (.ref X_NotRead) = some false)
    (weg_NoThing : PySem.W.findIn K (.ref X_NoThing) "__getattribute__" = some (some (.builtin "BaseException.__getattribute__")))
    (wek_NoThing : PySem.W.findIn K (.ref X_NoThing) "__getattr__" = some none)
    (wed_NoThing : PySem.W.hasDictIn K X_NoThing = true)
    (wea_NoThing : PySem.W.findIn K (.ref X_NoThing) "__class__" = some (some (.builtin "object.__class__")))
    (wem_NoThing : PySem.W.mroIn K X_NoThing (.type "object") = some true)
    (wes_NoThing : PySem.W.subIn K (.ref X_NoThing) (.ref X_ShareError) = some true)
    (wkv_NoThing : PySem.W.kitOne K (.ref X_NoThing) (.type "ValueError") = some true)
    (wk0_NoThing : PySem.W.kitOne K (.ref X_NoThing) (.ref X_NoThings) = some false)
    (wk1_NoThing : PySem.W.kitOne K (.ref X_NoThing) (.ref X_NoSharing) = some false)
    (wk2_NoThing : PySem.W.kitOne K (.ref X_NoThing) (.ref X_NoShares) = some false)
    (wk3_NoThing : PySem.W.kitOne K (.ref X_NoThing) (.ref X_Unlike) = some false)
    (wk4_NoThing : PySem.W.kitOne K (.ref X_NoThing) (.ref X_NotFiner) = some false)
    (wk5_NoThing : PySem.W.kitOne K (.ref X_NoThing) (.ref X_NoThing) = some true)
    (wk6_NoThing : PySem.W.kitOne K (.ref X_NoThing) (.ref X_NoNumber) = some false)
    (wk7_NoThing : PySem.W.kitOne K (.ref X_NoThing) (.ref X_NoWay) = some false)
    (wk8_NoThing : PySem.W.kitOne K (.ref X_NoThing) (.ref X_NotRead) = some false)
    (weg_NoNumber : PySem.W.findIn K (.ref X_NoNumber) "__getattribute__" = some (some (.builtin "BaseException.__getattribute__")))
    (wek_NoNumber : PySem.W.findIn K (.ref X_NoNumber) "__getattr__" = some none)
    (wed_NoNumber : PySem.W.hasDictIn K X_NoNumber = true)
    (wea_NoNumber : PySem.W.findIn K (.ref X_NoNumber) "__class__" = some (some (.builtin "object.__class__")))
    (wem_NoNumber : PySem.W.mroIn K X_NoNumber (.type "object") = some true)
    (wes_NoNumber : PySem.W.subIn K (.ref X_NoNumber) (.ref X_ShareError) = some true)
    (wkv_NoNumber : PySem.W.kitOne K (.ref X_NoNumber) (.type "ValueError") = some true)
    (wk0_NoNumber : PySem.W.kitOne K (.ref X_NoNumber) (.ref X_NoThings) = some false)
    (wk1_NoNumber : PySem.W.kitOne K (.ref X_NoNumber) (.ref X_NoSharing) = some false)
    (wk2_NoNumber : PySem.W.kitOne K (.ref X_NoNumber) (.ref X_NoShares) = some false)
    (wk3_NoNumber : PySem.W.kitOne K (.ref X_NoNumber) (.ref X_Unlike) = some false)
    (wk4_NoNumber : PySem.W.kitOne K (.ref X_NoNumber) (.ref X_NotFiner) = some false)
    (wk5_NoNumber : PySem.W.kitOne K (.ref X_NoNumber) (.ref X_NoThing) = some false)
    (wk6_NoNumber : PySem.W.kitOne K (.ref X_NoNumber) (.ref X_NoNumber) = some true)
    (wk7_NoNumber : PySem.W.kitOne K (.ref X_NoNumber) (.ref X_NoWay) = some false)
    (wk8_NoNumber : PySem.W.kitOne K (.ref X_NoNumber) (.ref X_NotRead) = some false)
    (weg_NoWay : PySem.W.findIn K (.ref X_NoWay) "__getattribute__" = some (some (.builtin "BaseException.__getattribute__")))
    (wek_NoWay : PySem.W.findIn K (.ref X_NoWay) "__getattr__" = some none)
    (wed_NoWay : PySem.W.hasDictIn K X_NoWay = true)
    (wea_NoWay : PySem.W.findIn K (.ref X_NoWay) "__class__" = some (some (.builtin "object.__class__")))
    (wem_NoWay : PySem.W.mroIn K X_NoWay (.type "object") = some true)
    (wes_NoWay : PySem.W.subIn K (.ref X_NoWay) (.ref X_ShareError) = some true)
    (wkv_NoWay : PySem.W.kitOne K (.ref X_NoWay) (.type "ValueError") = some true)
    (wk0_NoWay : PySem.W.kitOne K (.ref X_NoWay) (.ref X_NoThings) = some false)
    (wk1_NoWay : PySem.W.kitOne K (.ref X_NoWay) (.ref X_NoSharing) = some false)
    (wk2_NoWay : PySem.W.kitOne K (.ref X_NoWay) (.ref X_NoShares) = some false)
    (wk3_NoWay : PySem.W.kitOne K (.ref X_NoWay) (.ref X_Unlike) = some false)
    (wk4_NoWay : PySem.W.kitOne K (.ref X_NoWay) (.ref X_NotFiner) = some false)
    (wk5_NoWay : PySem.W.kitOne K (.ref X_NoWay) (.ref X_NoThing) = some false)
    (wk6_NoWay : PySem.W.kitOne K (.ref X_NoWay) (.ref X_NoNumber) = some false)
    (wk7_NoWay : PySem.W.kitOne K (.ref X_NoWay) (.ref X_NoWay) = some true)
    (wk8_NoWay : PySem.W.kitOne K (.ref X_NoWay) (.ref X_NotRead) = some false)
    (weg_NotRead : PySem.W.findIn K (.ref X_NotRead) "__getattribute__" = some (some (.builtin "BaseException.__getattribute__")))
    (wek_NotRead : PySem.W.findIn K (.ref X_NotRead) "__getattr__" = some none)
    (wed_NotRead : PySem.W.hasDictIn K X_NotRead = true)
    (wea_NotRead : PySem.W.findIn K (.ref X_NotRead) "__class__" = some (some (.builtin "object.__class__")))
    (wem_NotRead : PySem.W.mroIn K X_NotRead (.type "object") = some true)
    (wes_NotRead : PySem.W.subIn K (.ref X_NotRead) (.ref X_ShareError) = some true)
    (wkv_NotRead : PySem.W.kitOne K (.ref X_NotRead) (.type "ValueError") = some true)
    (wk0_NotRead : PySem.W.kitOne K (.ref X_NotRead) (.ref X_NoThings) = some false)
    (wk1_NotRead : PySem.W.kitOne K (.ref X_NotRead) (.ref X_NoSharing) = some false)
    (wk2_NotRead : PySem.W.kitOne K (.ref X_NotRead) (.ref X_NoShares) = some false)
    (wk3_NotRead : PySem.W.kitOne K (.ref X_NotRead) (.ref X_Unlike) = some false)
    (wk4_NotRead : PySem.W.kitOne K (.ref X_NotRead) (.ref X_NotFiner) = some false)
    (wk5_NotRead : PySem.W.kitOne K (.ref X_NotRead) (.ref X_NoThing) = some false)
    (wk6_NotRead : PySem.W.kitOne K (.ref X_NotRead) (.ref X_NoNumber) = some false)
    (wk7_NotRead : PySem.W.kitOne K (.ref X_NotRead) (.ref X_NoWay) = some false)
    (wk8_NotRead : PySem.W.kitOne K (.ref X_NotRead) (.ref X_NotRead) = some true)
    (wen : PySem.W.specialIn K (.builtin "object.__class__") "__get__" = some (some (.builtin "getset_descriptor.__get__"))) (wet : PySem.W.takesIn K (.builtin "object.__class__") = some true) (weD : PySem.W.hasDictIn K X_ShareError = true)
    (mD_NoShares : PySem.W.hasDictIn K X_NoShares = true) (ms_NoShares : PySem.W.subIn K (.ref X_NoShares) (.ref X_NoShares) = some true)
    : ∃ fd : FuncData, (∀ (s : Shared) (v : Value), BindsTo s fd ⟨[v], []⟩ [("script", v)]) ∧ ∀ base : Heap, K.In base → base.Ns mainGlobals mg → FnOk PySem.Challenge.pw_sharings_k14_each_refusal_its_own w K mg base (L2.CX PySem.Challenge.pw_sharings_k14_each_refusal_its_own w) 9 fa fd ["script"] (spLaw K 63) := by
  have e := hfa.symm.trans (PySem.W.mg_of X G a45)
  cases e
  let A : Nat → Addr := fun n => match n with
    | 0 => X_NoThings
    | 1 => X_NoSharing
    | 2 => X_NoShares
    | 3 => X_Unlike
    | 4 => X_NotFiner
    | 5 => X_NoThing
    | 6 => X_NoNumber
    | 7 => X_NoWay
    | 8 => X_NotRead
    | 9 => X_ShareError
    | _ => 0
  have T : Tx K mg A := {
    n_ValueError := PySem.W.mg_none_of X G z_ValueError
    n_int := PySem.W.mg_none_of X G z_int
    n_isinstance := PySem.W.mg_none_of X G z_isinstance
    n_len := PySem.W.mg_none_of X G z_len
    n_list := PySem.W.mg_none_of X G z_list
    n_max := PySem.W.mg_none_of X G z_max
    n_min := PySem.W.mg_none_of X G z_min
    n_range := PySem.W.mg_none_of X G z_range
    n_reversed := PySem.W.mg_none_of X G z_reversed
    n_set := PySem.W.mg_none_of X G z_set
    n_sorted := PySem.W.mg_none_of X G z_sorted
    n_str := PySem.W.mg_none_of X G z_str
    n_sum := PySem.W.mg_none_of X G z_sum
    g_MOST := ⟨_, PySem.W.mg_of X G g_MOST⟩
    g_FIGURES := ⟨_, PySem.W.mg_of X G g_FIGURES⟩
    x_NoThings := ⟨PySem.W.mg_of X G xa_NoThings, xx_NoThings, xk_NoThings, xb_NoThings, xt_NoThings⟩
    x_NoSharing := ⟨PySem.W.mg_of X G xa_NoSharing, xx_NoSharing, xk_NoSharing, xb_NoSharing, xt_NoSharing⟩
    x_NoShares := ⟨PySem.W.mg_of X G xa_NoShares, xx_NoShares, xk_NoShares, xb_NoShares, xt_NoShares⟩
    x_Unlike := ⟨PySem.W.mg_of X G xa_Unlike, xx_Unlike, xk_Unlike, xb_Unlike, xt_Unlike⟩
    x_NotFiner := ⟨PySem.W.mg_of X G xa_NotFiner, xx_NotFiner, xk_NotFiner, xb_NotFiner, xt_NotFiner⟩
    x_NoThing := ⟨PySem.W.mg_of X G xa_NoThing, xx_NoThing, xk_NoThing, xb_NoThing, xt_NoThing⟩
    x_NoNumber := ⟨PySem.W.mg_of X G xa_NoNumber, xx_NoNumber, xk_NoNumber, xb_NoNumber, xt_NoNumber⟩
    x_NoWay := ⟨PySem.W.mg_of X G xa_NoWay, xx_NoWay, xk_NoWay, xb_NoWay, xt_NoWay⟩
    x_NotRead := ⟨PySem.W.mg_of X G xa_NotRead, xx_NotRead, xk_NotRead, xb_NotRead, xt_NotRead⟩
    x_ShareError := ⟨PySem.W.mg_of X G xa_ShareError, xx_ShareError, xk_ShareError, xb_ShareError, xt_ShareError⟩
    tw_NoThings := ⟨⟨weg_NoThings, wek_NoThings, xb_NoThings, wed_NoThings, wea_NoThings, wen, wet, wem_NoThings⟩, wk0_NoThings, wk1_NoThings, wk2_NoThings, wk3_NoThings, wk4_NoThings, wk5_NoThings, wk6_NoThings, wk7_NoThings, wk8_NoThings, wkv_NoThings, PySem.W.exm_ref xb_ShareError weD xt_ShareError wes_NoThings⟩
    tw_NoSharing := ⟨⟨weg_NoSharing, wek_NoSharing, xb_NoSharing, wed_NoSharing, wea_NoSharing, wen, wet, wem_NoSharing⟩, wk0_NoSharing, wk1_NoSharing, wk2_NoSharing, wk3_NoSharing, wk4_NoSharing, wk5_NoSharing, wk6_NoSharing, wk7_NoSharing, wk8_NoSharing, wkv_NoSharing, PySem.W.exm_ref xb_ShareError weD xt_ShareError wes_NoSharing⟩
    tw_NoShares := ⟨⟨weg_NoShares, wek_NoShares, xb_NoShares, wed_NoShares, wea_NoShares, wen, wet, wem_NoShares⟩, wk0_NoShares, wk1_NoShares, wk2_NoShares, wk3_NoShares, wk4_NoShares, wk5_NoShares, wk6_NoShares, wk7_NoShares, wk8_NoShares, wkv_NoShares, PySem.W.exm_ref xb_ShareError weD xt_ShareError wes_NoShares⟩
    tw_Unlike := ⟨⟨weg_Unlike, wek_Unlike, xb_Unlike, wed_Unlike, wea_Unlike, wen, wet, wem_Unlike⟩, wk0_Unlike, wk1_Unlike, wk2_Unlike, wk3_Unlike, wk4_Unlike, wk5_Unlike, wk6_Unlike, wk7_Unlike, wk8_Unlike, wkv_Unlike, PySem.W.exm_ref xb_ShareError weD xt_ShareError wes_Unlike⟩
    tw_NotFiner := ⟨⟨weg_NotFiner, wek_NotFiner, xb_NotFiner, wed_NotFiner, wea_NotFiner, wen, wet, wem_NotFiner⟩, wk0_NotFiner, wk1_NotFiner, wk2_NotFiner, wk3_NotFiner, wk4_NotFiner, wk5_NotFiner, wk6_NotFiner, wk7_NotFiner, wk8_NotFiner, wkv_NotFiner, PySem.W.exm_ref xb_ShareError weD xt_ShareError wes_NotFiner⟩
    tw_NoThing := ⟨⟨weg_NoThing, wek_NoThing, xb_NoThing, wed_NoThing, wea_NoThing, wen, wet, wem_NoThing⟩, wk0_NoThing, wk1_NoThing, wk2_NoThing, wk3_NoThing, wk4_NoThing, wk5_NoThing, wk6_NoThing, wk7_NoThing, wk8_NoThing, wkv_NoThing, PySem.W.exm_ref xb_ShareError weD xt_ShareError wes_NoThing⟩
    tw_NoNumber := ⟨⟨weg_NoNumber, wek_NoNumber, xb_NoNumber, wed_NoNumber, wea_NoNumber, wen, wet, wem_NoNumber⟩, wk0_NoNumber, wk1_NoNumber, wk2_NoNumber, wk3_NoNumber, wk4_NoNumber, wk5_NoNumber, wk6_NoNumber, wk7_NoNumber, wk8_NoNumber, wkv_NoNumber, PySem.W.exm_ref xb_ShareError weD xt_ShareError wes_NoNumber⟩
    tw_NoWay := ⟨⟨weg_NoWay, wek_NoWay, xb_NoWay, wed_NoWay, wea_NoWay, wen, wet, wem_NoWay⟩, wk0_NoWay, wk1_NoWay, wk2_NoWay, wk3_NoWay, wk4_NoWay, wk5_NoWay, wk6_NoWay, wk7_NoWay, wk8_NoWay, wkv_NoWay, PySem.W.exm_ref xb_ShareError weD xt_ShareError wes_NoWay⟩
    tw_NotRead := ⟨⟨weg_NotRead, wek_NotRead, xb_NotRead, wed_NotRead, wea_NotRead, wen, wet, wem_NotRead⟩, wk0_NotRead, wk1_NotRead, wk2_NotRead, wk3_NotRead, wk4_NotRead, wk5_NotRead, wk6_NotRead, wk7_NotRead, wk8_NotRead, wkv_NotRead, PySem.W.exm_ref xb_ShareError weD xt_ShareError wes_NotRead⟩
    em_NoShares := PySem.W.exm_ref xb_NoShares mD_NoShares xt_NoShares ms_NoShares
  }
  have FL := fun_mk (st := s_law) l45 c45 k45
  refine ⟨PySem.W.fnOf "law" "law" (defArgs s_law) (defBody s_law) (defScope s_law) .none kV45 dc45 pm45 an45 cd45 ct45, fun s v => .of_eq rfl, fun base _ _ => ?_⟩
  have C_isSharing := ok_isSharing (P := PySem.Challenge.pw_sharings_k14_each_refusal_its_own) (w := w) (base := base) ⟨_, _, fun_mk (st := s_isSharing) l0 c0 k0, PySem.W.mg_of X G a0⟩ T 
  have C_ask := ok_ask (P := PySem.Challenge.pw_sharings_k14_each_refusal_its_own) (w := w) (base := base) ⟨_, _, fun_mk (st := s_ask) l1 c1 k1, PySem.W.mg_of X G a1⟩ T C_isSharing
  have C_sharesBy := ok_sharesBy (P := PySem.Challenge.pw_sharings_k14_each_refusal_its_own) (w := w) (base := base) ⟨_, _, fun_mk (st := s_sharesBy) l2 c2 k2, PySem.W.mg_of X G a2⟩ T 
  have C_sharesOf := ok_sharesOf (P := PySem.Challenge.pw_sharings_k14_each_refusal_its_own) (w := w) (base := base) ⟨_, _, fun_mk (st := s_sharesOf) l3 c3 k3, PySem.W.mg_of X G a3⟩ T C_ask C_sharesBy
  have CN_marked := ok_marked (P := PySem.Challenge.pw_sharings_k14_each_refusal_its_own) (w := w) (base := base) ⟨_, _, fun_mk (st := s_marked) l4 c4 k4, PySem.W.mg_of X G a4⟩ T 
  have C_marked := CN_marked.cal
  have CN_marksOf := ok_marksOf (P := PySem.Challenge.pw_sharings_k14_each_refusal_its_own) (w := w) (base := base) ⟨_, _, fun_mk (st := s_marksOf) l5 c5 k5, PySem.W.mg_of X G a5⟩ T CN_marked
  have C_marksOf := CN_marksOf.cal
  have C_sizes := ok_sizes (P := PySem.Challenge.pw_sharings_k14_each_refusal_its_own) (w := w) (base := base) ⟨_, _, fun_mk (st := s_sizes) l6 c6 k6, PySem.W.mg_of X G a6⟩ T C_ask C_sharesBy
  have C_askBoth := ok_askBoth (P := PySem.Challenge.pw_sharings_k14_each_refusal_its_own) (w := w) (base := base) ⟨_, _, fun_mk (st := s_askBoth) l7 c7 k7, PySem.W.mg_of X G a7⟩ T C_ask
  have C_finerBy := ok_finerBy (P := PySem.Challenge.pw_sharings_k14_each_refusal_its_own) (w := w) (base := base) ⟨_, _, fun_mk (st := s_finerBy) l8 c8 k8, PySem.W.mg_of X G a8⟩ T 
  have C_isFiner := ok_isFiner (P := PySem.Challenge.pw_sharings_k14_each_refusal_its_own) (w := w) (base := base) ⟨_, _, fun_mk (st := s_isFiner) l9 c9 k9, PySem.W.mg_of X G a9⟩ T C_askBoth C_finerBy
  have C_meeting := ok_meeting (P := PySem.Challenge.pw_sharings_k14_each_refusal_its_own) (w := w) (base := base) ⟨_, _, fun_mk (st := s_meeting) l10 c10 k10, PySem.W.mg_of X G a10⟩ T C_askBoth C_marked
  have C_merged := ok_merged (P := PySem.Challenge.pw_sharings_k14_each_refusal_its_own) (w := w) (base := base) ⟨_, _, fun_mk (st := s_merged) l11 c11 k11, PySem.W.mg_of X G a11⟩ T C_marked
  have C_joining := ok_joining (P := PySem.Challenge.pw_sharings_k14_each_refusal_its_own) (w := w) (base := base) ⟨_, _, fun_mk (st := s_joining) l12 c12 k12, PySem.W.mg_of X G a12⟩ T C_askBoth C_sharesBy C_merged
  have C_askFiner := ok_askFiner (P := PySem.Challenge.pw_sharings_k14_each_refusal_its_own) (w := w) (base := base) ⟨_, _, fun_mk (st := s_askFiner) l13 c13 k13, PySem.W.mg_of X G a13⟩ T C_askBoth C_finerBy
  have C_rise := ok_rise (P := PySem.Challenge.pw_sharings_k14_each_refusal_its_own) (w := w) (base := base) ⟨_, _, fun_mk (st := s_rise) l14 c14 k14, PySem.W.mg_of X G a14⟩ T C_askFiner C_sharesBy C_merged
  have C_parts := ok_parts (P := PySem.Challenge.pw_sharings_k14_each_refusal_its_own) (w := w) (base := base) ⟨_, _, fun_mk (st := s_parts) l15 c15 k15, PySem.W.mg_of X G a15⟩ T C_sharesBy
  have C_productTo := ok_productTo (P := PySem.Challenge.pw_sharings_k14_each_refusal_its_own) (w := w) (base := base) ⟨_, _, fun_mk (st := s_productTo) l16 c16 k16, PySem.W.mg_of X G a16⟩ T 
  have C_manyRises := ok_manyRises (P := PySem.Challenge.pw_sharings_k14_each_refusal_its_own) (w := w) (base := base) ⟨_, _, fun_mk (st := s_manyRises) l17 c17 k17, PySem.W.mg_of X G a17⟩ T C_askFiner C_parts C_productTo
  have C_signed := ok_signed (P := PySem.Challenge.pw_sharings_k14_each_refusal_its_own) (w := w) (base := base) ⟨_, _, fun_mk (st := s_signed) l18 c18 k18, PySem.W.mg_of X G a18⟩ T C_askFiner C_parts C_productTo
  have C_shown := ok_shown (P := PySem.Challenge.pw_sharings_k14_each_refusal_its_own) (w := w) (base := base) ⟨_, _, fun_mk (st := s_shown) l19 c19 k19, PySem.W.mg_of X G a19⟩ T C_ask C_sharesBy
  have C_thingOf := ok_thingOf (P := PySem.Challenge.pw_sharings_k14_each_refusal_its_own) (w := w) (base := base) ⟨_, _, fun_mk (st := s_thingOf) l20 c20 k20, PySem.W.mg_of X G a20⟩ T 
  have C_read := ok_read (P := PySem.Challenge.pw_sharings_k14_each_refusal_its_own) (w := w) (base := base) ⟨_, _, fun_mk (st := s_read) l21 c21 k21, PySem.W.mg_of X G a21⟩ T C_thingOf CN_marksOf C_shown
  have C_askThings := ok_askThings (P := PySem.Challenge.pw_sharings_k14_each_refusal_its_own) (w := w) (base := base) ⟨_, _, fun_mk (st := s_askThings) l22 c22 k22, PySem.W.mg_of X G a22⟩ T 
  have C_restCounts := ok_restCounts (P := PySem.Challenge.pw_sharings_k14_each_refusal_its_own) (w := w) (base := base) ⟨_, _, fun_mk (st := s_restCounts) l23 c23 k23, PySem.W.mg_of X G a23⟩ T 
  have C_many := ok_many (P := PySem.Challenge.pw_sharings_k14_each_refusal_its_own) (w := w) (base := base) ⟨_, _, fun_mk (st := s_many) l24 c24 k24, PySem.W.mg_of X G a24⟩ T C_askThings C_restCounts
  have C_manyWith := ok_manyWith (P := PySem.Challenge.pw_sharings_k14_each_refusal_its_own) (w := w) (base := base) ⟨_, _, fun_mk (st := s_manyWith) l25 c25 k25, PySem.W.mg_of X G a25⟩ T C_askThings
  have C_sharingAt := ok_sharingAt (P := PySem.Challenge.pw_sharings_k14_each_refusal_its_own) (w := w) (base := base) ⟨_, _, fun_mk (st := s_sharingAt) l26 c26 k26, PySem.W.mg_of X G a26⟩ T C_askThings C_many C_restCounts
  have C_numberOf := ok_numberOf (P := PySem.Challenge.pw_sharings_k14_each_refusal_its_own) (w := w) (base := base) ⟨_, _, fun_mk (st := s_numberOf) l27 c27 k27, PySem.W.mg_of X G a27⟩ T C_ask C_restCounts
  have C_manyFiner := ok_manyFiner (P := PySem.Challenge.pw_sharings_k14_each_refusal_its_own) (w := w) (base := base) ⟨_, _, fun_mk (st := s_manyFiner) l28 c28 k28, PySem.W.mg_of X G a28⟩ T C_ask C_sharesBy C_many
  have C_manyCoarser := ok_manyCoarser (P := PySem.Challenge.pw_sharings_k14_each_refusal_its_own) (w := w) (base := base) ⟨_, _, fun_mk (st := s_manyCoarser) l29 c29 k29, PySem.W.mg_of X G a29⟩ T C_ask C_many
  have C_askPairs := ok_askPairs (P := PySem.Challenge.pw_sharings_k14_each_refusal_its_own) (w := w) (base := base) ⟨_, _, fun_mk (st := s_askPairs) l30 c30 k30, PySem.W.mg_of X G a30⟩ T 
  have C_namesBy := ok_namesBy (P := PySem.Challenge.pw_sharings_k14_each_refusal_its_own) (w := w) (base := base) ⟨_, _, fun_mk (st := s_namesBy) l31 c31 k31, PySem.W.mg_of X G a31⟩ T 
  have C_sharingOf := ok_sharingOf (P := PySem.Challenge.pw_sharings_k14_each_refusal_its_own) (w := w) (base := base) ⟨_, _, fun_mk (st := s_sharingOf) l32 c32 k32, PySem.W.mg_of X G a32⟩ T C_askThings C_askPairs C_marked C_namesBy
  have C_otherOf := ok_otherOf (P := PySem.Challenge.pw_sharings_k14_each_refusal_its_own) (w := w) (base := base) ⟨_, _, fun_mk (st := s_otherOf) l33 c33 k33, PySem.W.mg_of X G a33⟩ T 
  have C_foundWay := ok_foundWay (P := PySem.Challenge.pw_sharings_k14_each_refusal_its_own) (w := w) (base := base) ⟨_, _, fun_mk (st := s_foundWay) l34 c34 k34, PySem.W.mg_of X G a34⟩ T C_otherOf
  have C_wayBy := ok_wayBy (P := PySem.Challenge.pw_sharings_k14_each_refusal_its_own) (w := w) (base := base) ⟨_, _, fun_mk (st := s_wayBy) l35 c35 k35, PySem.W.mg_of X G a35⟩ T C_askThings C_askPairs C_foundWay
  have C_judged := ok_judged (P := PySem.Challenge.pw_sharings_k14_each_refusal_its_own) (w := w) (base := base) ⟨_, _, fun_mk (st := s_judged) l36 c36 k36, PySem.W.mg_of X G a36⟩ T C_askThings C_askPairs C_foundWay C_marked C_namesBy
  have C_LcellAt := ok_LcellAt (P := PySem.Challenge.pw_sharings_k14_each_refusal_its_own) (w := w) (base := base) ⟨_, _, fun_mk (st := s_LcellAt) l37 c37 k37, PySem.W.mg_of X G a37⟩ T 
  have C_Lwhich := ok_Lwhich (P := PySem.Challenge.pw_sharings_k14_each_refusal_its_own) (w := w) (base := base) ⟨_, _, fun_mk (st := s_Lwhich) l38 c38 k38, PySem.W.mg_of X G a38⟩ T 
  have C_LofTwo := ok_LofTwo (P := PySem.Challenge.pw_sharings_k14_each_refusal_its_own) (w := w) (base := base) ⟨_, _, fun_mk (st := s_LofTwo) l39 c39 k39, PySem.W.mg_of X G a39⟩ T C_isFiner C_meeting C_joining C_rise C_manyRises C_signed
  have C_LnoThings := ok_LnoThings (P := PySem.Challenge.pw_sharings_k14_each_refusal_its_own) (w := w) (base := base) ⟨_, _, fun_mk (st := s_LnoThings) l40 c40 k40, PySem.W.mg_of X G a40⟩ T C_many C_manyWith C_sharingAt C_sharingOf C_wayBy C_judged
  have C_LnoSharing := ok_LnoSharing (P := PySem.Challenge.pw_sharings_k14_each_refusal_its_own) (w := w) (base := base) ⟨_, _, fun_mk (st := s_LnoSharing) l41 c41 k41, PySem.W.mg_of X G a41⟩ T C_LofTwo C_sharesOf C_sizes C_numberOf C_manyFiner C_manyCoarser C_shown
  have C_LnoThing := ok_LnoThing (P := PySem.Challenge.pw_sharings_k14_each_refusal_its_own) (w := w) (base := base) ⟨_, _, fun_mk (st := s_LnoThing) l42 c42 k42, PySem.W.mg_of X G a42⟩ T C_sharingOf C_wayBy C_judged
  have C_LnoNumber := ok_LnoNumber (P := PySem.Challenge.pw_sharings_k14_each_refusal_its_own) (w := w) (base := base) ⟨_, _, fun_mk (st := s_LnoNumber) l43 c43 k43, PySem.W.mg_of X G a43⟩ T C_manyWith C_sharingAt
  have C_Ldone := ok_Ldone (P := PySem.Challenge.pw_sharings_k14_each_refusal_its_own) (w := w) (base := base) ⟨_, _, fun_mk (st := s_Ldone) l44 c44 k44, PySem.W.mg_of X G a44⟩ T C_LnoThings C_LnoSharing C_marksOf C_LofTwo C_LnoThing C_LnoNumber C_wayBy C_read
  exact law_of (okF_law FL T C_LcellAt C_Ldone C_Lwhich) law_true
theorem cx_no {P : Program} {w : World} {l : List Env} {H : Hp} {s : Shared} {e : Value} {s' : Shared} (h : L2.CX P w l H s (fun _ _ _ => False) e s') : False := by
  obtain ⟨_, _, _, _, _, _, _, _, _, _, _, _, z⟩ := h
  exact z.elim
end Sh
open PySem PySem.W PyProof.Rows
set_option maxHeartbeats 0 in
theorem PySem.Challenge.cw_sharings_k14_each_refusal_its_own_holds : PySem.Challenge.rw_sharings_k14_each_refusal_its_own.Holds := by
  w_on; o_law; k_head; (case hw => w_witness2)
  k_fill
  refine L2.walk_of (l := PySem.Challenge.rw_sharings_k14_each_refusal_its_own) (n := 63) (k := 9) (x := "script") (CX := fun w => L2.CX PySem.Challenge.pw_sharings_k14_each_refusal_its_own w) (sp := fun w => Sh.spLaw _ 63) rfl (by decide) rfl ⟨rfl, by decide, by decide⟩ (fun w h Y => PySem.W.kIn_of Y) ?F (fun _ _ a ns hl _ hS => ⟨a, ns, rfl, hS, hl, fun _ => rfl⟩) (fun _ _ _ _ _ h => Sh.cx_no h)
  case F =>
    intro w mg fa h KX G hmg
    refine' Sh.all_mk KX G hmg ?a0 ?l0 ?c0 ?k0 ?a1 ?l1 ?c1 ?k1 ?a2 ?l2 ?c2 ?k2 ?a3 ?l3 ?c3 ?k3 ?a4 ?l4 ?c4 ?k4 ?a5 ?l5 ?c5 ?k5 ?a6 ?l6 ?c6 ?k6 ?a7 ?l7 ?c7 ?k7 ?a8 ?l8 ?c8 ?k8 ?a9 ?l9 ?c9 ?k9 ?a10 ?l10 ?c10 ?k10 ?a11 ?l11 ?c11 ?k11 ?a12 ?l12 ?c12 ?k12 ?a13 ?l13 ?c13 ?k13 ?a14 ?l14 ?c14 ?k14 ?a15 ?l15 ?c15 ?k15 ?a16 ?l16 ?c16 ?k16 ?a17 ?l17 ?c17 ?k17 ?a18 ?l18 ?c18 ?k18 ?a19 ?l19 ?c19 ?k19 ?a20 ?l20 ?c20 ?k20 ?a21 ?l21 ?c21 ?k21 ?a22 ?l22 ?c22 ?k22 ?a23 ?l23 ?c23 ?k23 ?a24 ?l24 ?c24 ?k24 ?a25 ?l25 ?c25 ?k25 ?a26 ?l26 ?c26 ?k26 ?a27 ?l27 ?c27 ?k27 ?a28 ?l28 ?c28 ?k28 ?a29 ?l29 ?c29 ?k29 ?a30 ?l30 ?c30 ?k30 ?a31 ?l31 ?c31 ?k31 ?a32 ?l32 ?c32 ?k32 ?a33 ?l33 ?c33 ?k33 ?a34 ?l34 ?c34 ?k34 ?a35 ?l35 ?c35 ?k35 ?a36 ?l36 ?c36 ?k36 ?a37 ?l37 ?c37 ?k37 ?a38 ?l38 ?c38 ?k38 ?a39 ?l39 ?c39 ?k39 ?a40 ?l40 ?c40 ?k40 ?a41 ?l41 ?c41 ?k41 ?a42 ?l42 ?c42 ?k42 ?a43 ?l43 ?c43 ?k43 ?a44 ?l44 ?c44 ?k44 ?a45 ?l45 ?c45 ?k45 ?z_ValueError ?z_int ?z_isinstance ?z_len ?z_list ?z_max ?z_min ?z_range ?z_reversed ?z_set ?z_sorted ?z_str ?z_sum ?g_MOST ?g_FIGURES ?xa_NoThings ?xx_NoThings ?xk_NoThings ?xb_NoThings ?xt_NoThings ?xa_NoSharing ?xx_NoSharing ?xk_NoSharing ?xb_NoSharing ?xt_NoSharing ?xa_NoShares ?xx_NoShares ?xk_NoShares ?xb_NoShares ?xt_NoShares ?xa_Unlike ?xx_Unlike ?xk_Unlike ?xb_Unlike ?xt_Unlike ?xa_NotFiner ?xx_NotFiner ?xk_NotFiner ?xb_NotFiner ?xt_NotFiner ?xa_NoThing ?xx_NoThing ?xk_NoThing ?xb_NoThing ?xt_NoThing ?xa_NoNumber ?xx_NoNumber ?xk_NoNumber ?xb_NoNumber ?xt_NoNumber ?xa_NoWay ?xx_NoWay ?xk_NoWay ?xb_NoWay ?xt_NoWay ?xa_NotRead ?xx_NotRead ?xk_NotRead ?xb_NotRead ?xt_NotRead ?xa_ShareError ?xx_ShareError ?xk_ShareError ?xb_ShareError ?xt_ShareError ?weg_NoThings ?wek_NoThings ?wed_NoThings ?wea_NoThings ?wem_NoThings ?wes_NoThings ?wkv_NoThings ?wk0_NoThings ?wk1_NoThings ?wk2_NoThings ?wk3_NoThings ?wk4_NoThings ?wk5_NoThings ?wk6_NoThings ?wk7_NoThings ?wk8_NoThings ?weg_NoSharing ?wek_NoSharing ?wed_NoSharing ?wea_NoSharing ?wem_NoSharing ?wes_NoSharing ?wkv_NoSharing ?wk0_NoSharing ?wk1_NoSharing ?wk2_NoSharing ?wk3_NoSharing ?wk4_NoSharing ?wk5_NoSharing ?wk6_NoSharing ?wk7_NoSharing ?wk8_NoSharing ?weg_NoShares ?wek_NoShares ?wed_NoShares ?wea_NoShares ?wem_NoShares ?wes_NoShares ?wkv_NoShares ?wk0_NoShares ?wk1_NoShares ?wk2_NoShares ?wk3_NoShares ?wk4_NoShares ?wk5_NoShares ?wk6_NoShares ?wk7_NoShares ?wk8_NoShares ?weg_Unlike ?wek_Unlike ?wed_Unlike ?wea_Unlike ?wem_Unlike ?wes_Unlike ?wkv_Unlike ?wk0_Unlike ?wk1_Unlike ?wk2_Unlike ?wk3_Unlike ?wk4_Unlike ?wk5_Unlike ?wk6_Unlike ?wk7_Unlike ?wk8_Unlike ?weg_NotFiner ?wek_NotFiner ?wed_NotFiner ?wea_NotFiner ?wem_NotFiner ?wes_NotFiner ?wkv_NotFiner ?wk0_NotFiner ?wk1_NotFiner ?wk2_NotFiner ?wk3_NotFiner ?wk4_NotFiner ?wk5_NotFiner ?wk6_NotFiner ?wk7_NotFiner ?wk8_NotFiner ?weg_NoThing ?wek_NoThing ?wed_NoThing ?wea_NoThing ?wem_NoThing ?wes_NoThing ?wkv_NoThing ?wk0_NoThing ?wk1_NoThing ?wk2_NoThing ?wk3_NoThing ?wk4_NoThing ?wk5_NoThing ?wk6_NoThing ?wk7_NoThing ?wk8_NoThing ?weg_NoNumber ?wek_NoNumber ?wed_NoNumber ?wea_NoNumber ?wem_NoNumber ?wes_NoNumber ?wkv_NoNumber ?wk0_NoNumber ?wk1_NoNumber ?wk2_NoNumber ?wk3_NoNumber ?wk4_NoNumber ?wk5_NoNumber ?wk6_NoNumber ?wk7_NoNumber ?wk8_NoNumber ?weg_NoWay ?wek_NoWay ?wed_NoWay ?wea_NoWay ?wem_NoWay ?wes_NoWay ?wkv_NoWay ?wk0_NoWay ?wk1_NoWay ?wk2_NoWay ?wk3_NoWay ?wk4_NoWay ?wk5_NoWay ?wk6_NoWay ?wk7_NoWay ?wk8_NoWay ?weg_NotRead ?wek_NotRead ?wed_NotRead ?wea_NotRead ?wem_NotRead ?wes_NotRead ?wkv_NotRead ?wk0_NotRead ?wk1_NotRead ?wk2_NotRead ?wk3_NotRead ?wk4_NotRead ?wk5_NotRead ?wk6_NotRead ?wk7_NotRead ?wk8_NotRead ?wen ?wet ?weD ?mD_NoShares ?ms_NoShares
    (case a0 => k_is); (case l0 => k_is); (case c0 => k_is); (case k0 => k_is); (case a1 => k_is); (case l1 => k_is); (case c1 => k_is); (case k1 => k_is); (case a2 => k_is); (case l2 => k_is); (case c2 => k_is); (case k2 => k_is); (case a3 => k_is); (case l3 => k_is); (case c3 => k_is); (case k3 => k_is); (case a4 => k_is); (case l4 => k_is); (case c4 => k_is); (case k4 => k_is); (case a5 => k_is); (case l5 => k_is); (case c5 => k_is); (case k5 => k_is); (case a6 => k_is); (case l6 => k_is); (case c6 => k_is); (case k6 => k_is); (case a7 => k_is); (case l7 => k_is); (case c7 => k_is); (case k7 => k_is); (case a8 => k_is); (case l8 => k_is); (case c8 => k_is); (case k8 => k_is); (case a9 => k_is); (case l9 => k_is); (case c9 => k_is); (case k9 => k_is); (case a10 => k_is); (case l10 => k_is); (case c10 => k_is); (case k10 => k_is); (case a11 => k_is); (case l11 => k_is); (case c11 => k_is); (case k11 => k_is); (case a12 => k_is); (case l12 => k_is); (case c12 => k_is); (case k12 => k_is); (case a13 => k_is); (case l13 => k_is); (case c13 => k_is); (case k13 => k_is); (case a14 => k_is); (case l14 => k_is); (case c14 => k_is); (case k14 => k_is); (case a15 => k_is); (case l15 => k_is); (case c15 => k_is); (case k15 => k_is); (case a16 => k_is); (case l16 => k_is); (case c16 => k_is); (case k16 => k_is); (case a17 => k_is); (case l17 => k_is); (case c17 => k_is); (case k17 => k_is); (case a18 => k_is); (case l18 => k_is); (case c18 => k_is); (case k18 => k_is); (case a19 => k_is); (case l19 => k_is); (case c19 => k_is); (case k19 => k_is); (case a20 => k_is); (case l20 => k_is); (case c20 => k_is); (case k20 => k_is); (case a21 => k_is); (case l21 => k_is); (case c21 => k_is); (case k21 => k_is); (case a22 => k_is); (case l22 => k_is); (case c22 => k_is); (case k22 => k_is); (case a23 => k_is); (case l23 => k_is); (case c23 => k_is); (case k23 => k_is); (case a24 => k_is); (case l24 => k_is); (case c24 => k_is); (case k24 => k_is); (case a25 => k_is); (case l25 => k_is); (case c25 => k_is); (case k25 => k_is); (case a26 => k_is); (case l26 => k_is); (case c26 => k_is); (case k26 => k_is); (case a27 => k_is); (case l27 => k_is); (case c27 => k_is); (case k27 => k_is); (case a28 => k_is); (case l28 => k_is); (case c28 => k_is); (case k28 => k_is); (case a29 => k_is); (case l29 => k_is); (case c29 => k_is); (case k29 => k_is); (case a30 => k_is); (case l30 => k_is); (case c30 => k_is); (case k30 => k_is); (case a31 => k_is); (case l31 => k_is); (case c31 => k_is); (case k31 => k_is); (case a32 => k_is); (case l32 => k_is); (case c32 => k_is); (case k32 => k_is); (case a33 => k_is); (case l33 => k_is); (case c33 => k_is); (case k33 => k_is); (case a34 => k_is); (case l34 => k_is); (case c34 => k_is); (case k34 => k_is); (case a35 => k_is); (case l35 => k_is); (case c35 => k_is); (case k35 => k_is); (case a36 => k_is); (case l36 => k_is); (case c36 => k_is); (case k36 => k_is); (case a37 => k_is); (case l37 => k_is); (case c37 => k_is); (case k37 => k_is); (case a38 => k_is); (case l38 => k_is); (case c38 => k_is); (case k38 => k_is); (case a39 => k_is); (case l39 => k_is); (case c39 => k_is); (case k39 => k_is); (case a40 => k_is); (case l40 => k_is); (case c40 => k_is); (case k40 => k_is); (case a41 => k_is); (case l41 => k_is); (case c41 => k_is); (case k41 => k_is); (case a42 => k_is); (case l42 => k_is); (case c42 => k_is); (case k42 => k_is); (case a43 => k_is); (case l43 => k_is); (case c43 => k_is); (case k43 => k_is); (case a44 => k_is); (case l44 => k_is); (case c44 => k_is); (case k44 => k_is); (case a45 => k_is); (case l45 => k_is); (case c45 => k_is); (case k45 => k_is); (case z_ValueError => k_is); (case z_int => k_is); (case z_isinstance => k_is); (case z_len => k_is); (case z_list => k_is); (case z_max => k_is); (case z_min => k_is); (case z_range => k_is); (case z_reversed => k_is); (case z_set => k_is); (case z_sorted => k_is); (case z_str => k_is); (case z_sum => k_is); (case g_MOST => k_is); (case g_FIGURES => k_is); (case xa_NoThings => k_is); (case xx_NoThings => k_exc); (case xk_NoThings => k_is); (case xb_NoThings => k_is); (case xt_NoThings => k_is); (case xa_NoSharing => k_is); (case xx_NoSharing => k_exc); (case xk_NoSharing => k_is); (case xb_NoSharing => k_is); (case xt_NoSharing => k_is); (case xa_NoShares => k_is); (case xx_NoShares => k_exc); (case xk_NoShares => k_is); (case xb_NoShares => k_is); (case xt_NoShares => k_is); (case xa_Unlike => k_is); (case xx_Unlike => k_exc); (case xk_Unlike => k_is); (case xb_Unlike => k_is); (case xt_Unlike => k_is); (case xa_NotFiner => k_is); (case xx_NotFiner => k_exc); (case xk_NotFiner => k_is); (case xb_NotFiner => k_is); (case xt_NotFiner => k_is); (case xa_NoThing => k_is); (case xx_NoThing => k_exc); (case xk_NoThing => k_is); (case xb_NoThing => k_is); (case xt_NoThing => k_is); (case xa_NoNumber => k_is); (case xx_NoNumber => k_exc); (case xk_NoNumber => k_is); (case xb_NoNumber => k_is); (case xt_NoNumber => k_is); (case xa_NoWay => k_is); (case xx_NoWay => k_exc); (case xk_NoWay => k_is); (case xb_NoWay => k_is); (case xt_NoWay => k_is); (case xa_NotRead => k_is); (case xx_NotRead => k_exc); (case xk_NotRead => k_is); (case xb_NotRead => k_is); (case xt_NotRead => k_is); (case xa_ShareError => k_is); (case xx_ShareError => k_exc); (case xk_ShareError => k_is); (case xb_ShareError => k_is); (case xt_ShareError => k_is); (case weg_NoThings => k_is); (case wek_NoThings => k_is); (case wed_NoThings => k_is); (case wea_NoThings => k_is); (case wem_NoThings => k_is); (case wes_NoThings => k_is); (case wkv_NoThings => kit_is); (case wk0_NoThings => kit_is); (case wk1_NoThings => kit_is); (case wk2_NoThings => kit_is); (case wk3_NoThings => kit_is); (case wk4_NoThings => kit_is); (case wk5_NoThings => kit_is); (case wk6_NoThings => kit_is); (case wk7_NoThings => kit_is); (case wk8_NoThings => kit_is); (case weg_NoSharing => k_is); (case wek_NoSharing => k_is); (case wed_NoSharing => k_is); (case wea_NoSharing => k_is); (case wem_NoSharing => k_is); (case wes_NoSharing => k_is); (case wkv_NoSharing => kit_is); (case wk0_NoSharing => kit_is); (case wk1_NoSharing => kit_is); (case wk2_NoSharing => kit_is); (case wk3_NoSharing => kit_is); (case wk4_NoSharing => kit_is); (case wk5_NoSharing => kit_is); (case wk6_NoSharing => kit_is); (case wk7_NoSharing => kit_is); (case wk8_NoSharing => kit_is); (case weg_NoShares => k_is); (case wek_NoShares => k_is); (case wed_NoShares => k_is); (case wea_NoShares => k_is); (case wem_NoShares => k_is); (case wes_NoShares => k_is); (case wkv_NoShares => kit_is); (case wk0_NoShares => kit_is); (case wk1_NoShares => kit_is); (case wk2_NoShares => kit_is); (case wk3_NoShares => kit_is); (case wk4_NoShares => kit_is); (case wk5_NoShares => kit_is); (case wk6_NoShares => kit_is); (case wk7_NoShares => kit_is); (case wk8_NoShares => kit_is); (case weg_Unlike => k_is); (case wek_Unlike => k_is); (case wed_Unlike => k_is); (case wea_Unlike => k_is); (case wem_Unlike => k_is); (case wes_Unlike => k_is); (case wkv_Unlike => kit_is); (case wk0_Unlike => kit_is); (case wk1_Unlike => kit_is); (case wk2_Unlike => kit_is); (case wk3_Unlike => kit_is); (case wk4_Unlike => kit_is); (case wk5_Unlike => kit_is); (case wk6_Unlike => kit_is); (case wk7_Unlike => kit_is); (case wk8_Unlike => kit_is); (case weg_NotFiner => k_is); (case wek_NotFiner => k_is); (case wed_NotFiner => k_is); (case wea_NotFiner => k_is); (case wem_NotFiner => k_is); (case wes_NotFiner => k_is); (case wkv_NotFiner => kit_is); (case wk0_NotFiner => kit_is); (case wk1_NotFiner => kit_is); (case wk2_NotFiner => kit_is); (case wk3_NotFiner => kit_is); (case wk4_NotFiner => kit_is); (case wk5_NotFiner => kit_is); (case wk6_NotFiner => kit_is); (case wk7_NotFiner => kit_is); (case wk8_NotFiner => kit_is); (case weg_NoThing => k_is); (case wek_NoThing => k_is); (case wed_NoThing => k_is); (case wea_NoThing => k_is); (case wem_NoThing => k_is); (case wes_NoThing => k_is); (case wkv_NoThing => kit_is); (case wk0_NoThing => kit_is); (case wk1_NoThing => kit_is); (case wk2_NoThing => kit_is); (case wk3_NoThing => kit_is); (case wk4_NoThing => kit_is); (case wk5_NoThing => kit_is); (case wk6_NoThing => kit_is); (case wk7_NoThing => kit_is); (case wk8_NoThing => kit_is); (case weg_NoNumber => k_is); (case wek_NoNumber => k_is); (case wed_NoNumber => k_is); (case wea_NoNumber => k_is); (case wem_NoNumber => k_is); (case wes_NoNumber => k_is); (case wkv_NoNumber => kit_is); (case wk0_NoNumber => kit_is); (case wk1_NoNumber => kit_is); (case wk2_NoNumber => kit_is); (case wk3_NoNumber => kit_is); (case wk4_NoNumber => kit_is); (case wk5_NoNumber => kit_is); (case wk6_NoNumber => kit_is); (case wk7_NoNumber => kit_is); (case wk8_NoNumber => kit_is); (case weg_NoWay => k_is); (case wek_NoWay => k_is); (case wed_NoWay => k_is); (case wea_NoWay => k_is); (case wem_NoWay => k_is); (case wes_NoWay => k_is); (case wkv_NoWay => kit_is); (case wk0_NoWay => kit_is); (case wk1_NoWay => kit_is); (case wk2_NoWay => kit_is); (case wk3_NoWay => kit_is); (case wk4_NoWay => kit_is); (case wk5_NoWay => kit_is); (case wk6_NoWay => kit_is); (case wk7_NoWay => kit_is); (case wk8_NoWay => kit_is); (case weg_NotRead => k_is); (case wek_NotRead => k_is); (case wed_NotRead => k_is); (case wea_NotRead => k_is); (case wem_NotRead => k_is); (case wes_NotRead => k_is); (case wkv_NotRead => kit_is); (case wk0_NotRead => kit_is); (case wk1_NotRead => kit_is); (case wk2_NotRead => kit_is); (case wk3_NotRead => kit_is); (case wk4_NotRead => kit_is); (case wk5_NotRead => kit_is); (case wk6_NotRead => kit_is); (case wk7_NotRead => kit_is); (case wk8_NotRead => kit_is); (case wen => k_is); (case wet => k_is); (case weD => k_is); (case mD_NoShares => k_is); (case ms_NoShares => k_is)

