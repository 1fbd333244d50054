import PyProof.Rows.All
import Wide.All
import OpenK.AllK
import Wide.FinOn
import HandS.ForMost
import PySem.Challenge.RW_noneleft_k34_whole_books_side_by_side
import HandS.Exc
import HandS.Defaults
import HandS.Walk
import HandS.Zip
import HandS.TupAny
import HandS.TupMul
import HandS.Deep
import KE.KTupSum
import KE.KSortTupG
import KE.KDictCopyH
import KE.KDictSum
import HandS.More
import KE.KDictDisplayH
import KE.GoesEnum
import KE.KDictWalk
import HandS.Style
import HandS.Star
import HandS.IsInst
import HandS.OwnEq
import HandS.TupLen
import HandS.CallLocal
import HandS.Codes
import HandS.Small
import HandS.Conv
import HandS.ExcInit
import HandS.ExcField
import KE.KExcSuper
import HandS.CallSlots
import HandS.WordsExc
import PyProof.ReprRoads
import PyProof.CallFns
import PyProof.Rows.NestShow
import HandS.Ends
import KE.KStateDown
import Lean
import HandS.Head0
import HandS.Head1
import HandS.Head2
import HandS.HeadEnd
import HandS.HeadHook1
import HandS.HeadHook2
set_option Elab.async false
set_option linter.all false
set_option maxRecDepth 100000
/-! the text by places -/
namespace N34
open PySem L2
def top (i : Nat) : Stmt := PySem.Challenge.pw_noneleft_k34_whole_books_side_by_side.main.body.getD i (.Pass ⟨0, 0, 0, 0⟩)
abbrev sInvalidbookInit : Stmt := inClass (top 2) 0
abbrev sInvalidcrowdInit : Stmt := inClass (top 3) 0
abbrev sRefusedInit : Stmt := inClass (top 4) 0
abbrev sIsInteger : Stmt := top 6
abbrev sIsNumber : Stmt := top 7
abbrev sIsIndex : Stmt := top 8
abbrev sIsSequence : Stmt := top 9
abbrev sWithin : Stmt := top 10
abbrev sLess : Stmt := top 11
abbrev sMore : Stmt := top 12
abbrev sNobody : Stmt := top 13
abbrev sIsBatch : Stmt := top 15
abbrev sBookInit : Stmt := inClass (top 16) 0
abbrev sBookEq : Stmt := inClass (top 16) 1
abbrev sBookFound : Stmt := inClass (top 16) 2
abbrev sCheckedCrowd : Stmt := top 17
abbrev sChosen : Stmt := top 19
abbrev sBeside : Stmt := top 20
abbrev sParts : Stmt := top 21
abbrev sPart : Stmt := top 22
abbrev sSumOf : Stmt := top 24
abbrev sIsNeedless : Stmt := top 25
abbrev sCoversOf : Stmt := top 26
abbrev sClearing : Stmt := top 28
abbrev sBatchesWithFirst : Stmt := top 29
abbrev sLeaves : Stmt := top 30
abbrev sAllLeaves : Stmt := top 31
abbrev sIsSafe : Stmt := top 32
abbrev sSteps : Stmt := top 34
abbrev sWaysOn : Stmt := top 35
abbrev sAllEnds : Stmt := top 36
abbrev sLawDraw : Stmt := top 38
abbrev sLawAny : Stmt := top 39
abbrev sLawOf : Stmt := top 40
abbrev sLawMixed : Stmt := top 41
abbrev sLawWithin : Stmt := top 42
abbrev sLawMore : Stmt := top 43
abbrev sLawCrowds : Stmt := top 44
abbrev sLawZero : Stmt := top 45
abbrev sLawNamed : Stmt := top 46
abbrev sLawBook : Stmt := top 47
abbrev sLawLess : Stmt := top 48
abbrev sLawEnds : Stmt := top 49
abbrev sLawLots : Stmt := top 50
abbrev sLawPart : Stmt := top 51
abbrev sLawRefused : Stmt := top 52
abbrev sLawEndsRight : Stmt := top 53
abbrev sLawWrongSums : Stmt := top 54
abbrev sLawCovers : Stmt := top 55
abbrev sLawSum : Stmt := top 56
abbrev sLawClears : Stmt := top 57
abbrev sLaw : Stmt := top 58
end N34

set_option Elab.async false
set_option linter.all false
set_option maxRecDepth 100000
set_option maxHeartbeats 1000000
/-! a layer over HandS: expressions that come to data, statements by what they reach -/
namespace N34
open PySem PySem.Spec PyProof.Rows L2

/-! ### heaps -/
def Ex (H H' : Hp) : Prop := ∀ a o, H a = some o → H' a = some o
theorem Ex.refl (H : Hp) : Ex H H := fun _ _ h => h
theorem Ex.trans {H H1 H2 : Hp} (a : Ex H H1) (b : Ex H1 H2) : Ex H H2 := fun x o h => b x o (a x o h)
theorem Ex.new {H : Hp} {p : Addr} {o : HO} (h : H p = none) : Ex H (upd H p o) := fun a u e => by
  rw [upd_ne (ne_of_none e h)]; exact e
theorem Ex.mut {H H' : Hp} {p : Addr} {o : HO} (e : Ex H H') (h : H p = none) : Ex H (upd H' p o) := fun a u ha => by
  rw [upd_ne (ne_of_none ha h)]; exact e a u ha
theorem Ex.free {H H' : Hp} {p : Addr} (e : Ex H H') (h : H' p = none) : H p = none := by
  cases q : H p with
  | none => rfl
  | some o => rw [e p o q] at h; cases h
def hid (S : List Addr) (H : Hp) : Hp := fun a => if a ∈ S then none else H a
theorem hid_in {S : List Addr} {H : Hp} {a : Addr} (h : a ∈ S) : hid S H a = none := if_pos h
theorem hid_out {S : List Addr} {H : Hp} {a : Addr} (h : a ∉ S) : hid S H a = H a := if_neg h
theorem hid_some {S : List Addr} {H : Hp} {a : Addr} {o : HO} (h : hid S H a = some o) : a ∉ S ∧ H a = some o := by
  by_cases q : a ∈ S
  · rw [hid_in q] at h; cases h
  · rw [hid_out q] at h; exact ⟨q, h⟩
theorem hid_ex {S : List Addr} {H H' : Hp} (e : Ex H H') : Ex (hid S H) (hid S H') := fun a o h => by
  obtain ⟨h1, h2⟩ := hid_some h
  rw [hid_out h1]; exact e a o h2
theorem hid_le {S : List Addr} {H : Hp} : Ex (hid S H) H := fun a o h => (hid_some h).2
theorem hid_upd {S : List Addr} {H : Hp} {l : Addr} {o : HO} (h : l ∈ S) : hid S (upd H l o) = hid S H := by
  funext b
  by_cases q : b ∈ S
  · rw [hid_in q, hid_in q]
  · rw [hid_out q, hid_out q, upd_ne (fun z => q (by rw [z]; exact h))]
/-- a further cell hidden -/
theorem hid_cons {S : List Addr} {H H' : Hp} {l : Addr} (e : Ex H H') (h : H l = none) : Ex (hid S H) (hid (l :: S) H') := fun a o q => by
  obtain ⟨h1, h2⟩ := hid_some q
  rw [hid_out (fun z => (List.mem_cons.mp z).elim (fun z => by rw [z, h] at h2; cases h2) h1)]
  exact e a o h2
theorem hid_more {S S' : List Addr} {H : Hp} (h : ∀ a ∈ S, a ∈ S') : Ex (hid S' H) (hid S H) := fun a o q => by
  obtain ⟨h1, h2⟩ := hid_some q
  rw [hid_out (fun z => h1 (h a z))]; exact h2
theorem hid_tl {S : List Addr} {H : Hp} {l : Addr} : Ex (hid (l :: S) H) (hid S H) := hid_more fun _ h => List.mem_cons_of_mem _ h
/-- not a tuple -/
def NT (o : HO) : Prop := ∀ xs, o ≠ .tup xs
theorem NT.lst {xs : List V} : NT (.lst xs) := fun _ h => nomatch h
theorem NT.dT {kvs : List (List Key × V)} : NT (.dT kvs) := fun _ h => nomatch h
def Al (S : List Addr) (H : Hp) : Prop := ∀ a ∈ S, ∃ o, H a = some o ∧ NT o
theorem Al.ex {S : List Addr} {H H' : Hp} (al : Al S H) (e : Ex H H') : Al S H' := fun a h => let ⟨o, h1, h2⟩ := al a h; ⟨o, e _ _ h1, h2⟩
theorem Al.out {S : List Addr} {H : Hp} {p : Addr} (al : Al S H) (h : H p = none) : p ∉ S := fun z => by
  obtain ⟨o, h1, _⟩ := al p z
  rw [h] at h1; cases h1
theorem Al.tup {S : List Addr} {H : Hp} {p : Addr} {xs : List V} (al : Al S H) (h : H p = some (.tup xs)) : p ∉ S := fun z => by
  obtain ⟨o, h1, h2⟩ := al p z
  rw [h] at h1; exact h2 xs (Option.some.inj h1).symm
theorem Al.nil {H : Hp} : Al [] H := fun _ h => nomatch h
theorem Al.cons {S : List Addr} {H : Hp} {l : Addr} {o : HO} (al : Al S H) (h : H l = some o) (n : NT o) : Al (l :: S) H := fun a z => by
  rcases List.mem_cons.mp z with e | z
  · rw [e]; exact ⟨o, h, n⟩
  · exact al a z
theorem Al.upd {S : List Addr} {H : Hp} {l : Addr} {o : HO} (al : Al S H) (n : NT o) : Al S (upd H l o) := fun a z => by
  by_cases e : a = l
  · rw [e]; exact ⟨o, upd_same, n⟩
  · rw [upd_ne e]; exact al a z
theorem Al.tl {S : List Addr} {H : Hp} {l : Addr} (al : Al (l :: S) H) : Al S H := fun a z => al a (List.mem_cons_of_mem _ z)

/-! ### data at a value -/
mutual
inductive Dt (H : Hp) : V → PyData → Prop
  | non : Dt H .non .none
  | bl (b : Bool) : Dt H (.bl b) (.bool b)
  | int (i : Int) : Dt H (.int i) (.int i)
  | str (x : Str) : Dt H (.str x) (.str x)
  | lst {a : Addr} {xs : List V} {ds : List PyData} : H a = some (.lst xs) → DtA H xs ds → Dt H (.ref a) (.list ds)
  | tup {a : Addr} {xs : List V} {ds : List PyData} : H a = some (.tup xs) → DtA H xs ds → Dt H (.ref a) (.tuple ds)
inductive DtA (H : Hp) : List V → List PyData → Prop
  | nil : DtA H [] []
  | cons {v : V} {vs : List V} {d : PyData} {ds : List PyData} : Dt H v d → DtA H vs ds → DtA H (v :: vs) (d :: ds)
end
mutual
theorem Dt.mono {H H' : Hp} (e : Ex H H') : ∀ {v : V} {d : PyData}, Dt H v d → Dt H' v d
  | _, _, .non => .non
  | _, _, .bl b => .bl b
  | _, _, .int i => .int i
  | _, _, .str x => .str x
  | _, _, .lst h r => .lst (e _ _ h) (DtA.mono e r)
  | _, _, .tup h r => .tup (e _ _ h) (DtA.mono e r)
theorem DtA.mono {H H' : Hp} (e : Ex H H') : ∀ {vs : List V} {ds : List PyData}, DtA H vs ds → DtA H' vs ds
  | _, _, .nil => .nil
  | _, _, .cons h r => .cons (Dt.mono e h) (DtA.mono e r)
end
mutual
theorem Dt.dp {K : PySem.W.Frag} {H : Hp} : ∀ {v : V} {d : PyData}, Dt H v d → Dp K H v d
  | _, _, .non => .non
  | _, _, .bl b => .bl b
  | _, _, .int i => .int i
  | _, _, .str x => .str x
  | _, _, .lst h r => .lst (SqL.of h) (DtA.dp r)
  | _, _, .tup h r => .tup (SqT.of h) (DtA.dp r)
theorem DtA.dp {K : PySem.W.Frag} {H : Hp} : ∀ {vs : List V} {ds : List PyData}, DtA H vs ds → DpAll K H vs ds
  | _, _, .nil => .nil
  | _, _, .cons h r => .cons (Dt.dp h) (DtA.dp r)
end
theorem DtA.length {H : Hp} : ∀ {vs : List V} {ds : List PyData}, DtA H vs ds → vs.length = ds.length
  | _, _, .nil => rfl
  | _, _, .cons _ r => congrArg Nat.succ r.length
theorem DtA.append {H : Hp} : ∀ {vs ws : List V} {ds es : List PyData}, DtA H vs ds → DtA H ws es → DtA H (vs ++ ws) (ds ++ es)
  | _, _, _, _, .nil, s => s
  | _, _, _, _, .cons h r, s => .cons h (r.append s)
theorem DtA.get {H : Hp} : ∀ {vs : List V} {ds : List PyData} {i : Nat} {d : PyData}, DtA H vs ds → ds[i]? = some d → ∃ v, vs[i]? = some v ∧ Dt H v d
  | _, _, _, _, .nil, e => by simp at e
  | _, _, 0, _, .cons h _, e => by simp at e; subst e; exact ⟨_, rfl, h⟩
  | _, _, i + 1, d, .cons _ r, e => by
    obtain ⟨v, h1, h2⟩ := DtA.get (i := i) (d := d) r (by simpa using e)
    exact ⟨v, by simpa using h1, h2⟩
theorem DtA.get' {H : Hp} : ∀ {vs : List V} {ds : List PyData} {i : Nat} {v : V}, DtA H vs ds → vs[i]? = some v → ∃ d, ds[i]? = some d ∧ Dt H v d
  | _, _, _, _, .nil, e => by simp at e
  | _, _, 0, _, .cons h _, e => by simp at e; subst e; exact ⟨_, rfl, h⟩
  | _, _, i + 1, d, .cons _ r, e => by
    obtain ⟨v, h1, h2⟩ := DtA.get' (i := i) r (by simpa using e)
    exact ⟨v, by simpa using h1, h2⟩
theorem DtA.ints {H : Hp} : ∀ {ns : List Int} {vs : List V}, DtA H vs (ns.map PyData.int) → vs = ns.map V.int
  | [], _, .nil => rfl
  | n :: ns, _, .cons h r => by
    cases h
    rw [DtA.ints r]; rfl
theorem DtA.of_ints {H : Hp} : ∀ ns : List Int, DtA H (ns.map V.int) (ns.map PyData.int)
  | [] => .nil
  | n :: ns => .cons (.int n) (DtA.of_ints ns)
theorem DtA.bls {H : Hp} : ∀ {bs : List Bool} {vs : List V}, DtA H vs (bs.map PyData.bool) → vs = bs.map V.bl
  | [], _, .nil => rfl
  | n :: ns, _, .cons h r => by
    cases h
    rw [DtA.bls r]; rfl
/-- a tuple of ints -/
abbrev vec (ns : List Int) : PyData := .tuple (ns.map PyData.int)
/-- a list of ints; a list, a tuple of tuples of ints -/
abbrev lint (ns : List Int) : PyData := .list (ns.map PyData.int)
abbrev lvec (nss : List (List Int)) : PyData := .list (nss.map vec)
abbrev tvec (nss : List (List Int)) : PyData := .tuple (nss.map vec)
theorem Dt.vecI {H : Hp} {v : V} {ns : List Int} (h : Dt H v (vec ns)) : ∃ a, v = .ref a ∧ H a = some (.tup (ns.map V.int)) := by
  cases h with
  | tup h r => exact ⟨_, rfl, by rw [← r.ints]; exact h⟩
theorem Dt.vecO {H : Hp} {a : Addr} {ns : List Int} (h : H a = some (.tup (ns.map V.int))) : Dt H (.ref a) (vec ns) := .tup h (.of_ints ns)
theorem Dt.intI {H : Hp} {v : V} {i : Int} (h : Dt H v (.int i)) : v = .int i := by cases h; rfl
theorem Dt.blI {H : Hp} {v : V} {b : Bool} (h : Dt H v (.bool b)) : v = .bl b := by cases h; rfl
theorem Dt.nonI {H : Hp} {v : V} (h : Dt H v .none) : v = .non := by cases h; rfl
theorem Dt.strI {H : Hp} {v : V} {x : Str} (h : Dt H v (.str x)) : v = .str x := by cases h; rfl
theorem Dt.tupI {H : Hp} {v : V} {ds : List PyData} (h : Dt H v (.tuple ds)) : ∃ a xs, v = .ref a ∧ H a = some (.tup xs) ∧ DtA H xs ds := by
  cases h with
  | tup h r => exact ⟨_, _, rfl, h, r⟩
theorem Dt.lstI {H : Hp} {v : V} {ds : List PyData} (h : Dt H v (.list ds)) : ∃ a xs, v = .ref a ∧ H a = some (.lst xs) ∧ DtA H xs ds := by
  cases h with
  | lst h r => exact ⟨_, _, rfl, h, r⟩
theorem Dt.lintI {H : Hp} {v : V} {ns : List Int} (h : Dt H v (lint ns)) : ∃ a, v = .ref a ∧ H a = some (.lst (ns.map V.int)) := by
  cases h with
  | lst h r => exact ⟨_, rfl, by rw [← r.ints]; exact h⟩
/-- what is true of a value in a heap, whatever comes -/
abbrev RV := V → Hp → Prop
def Mono (R : RV) : Prop := ∀ v H H', Ex H H' → R v H → R v H'
abbrev isD (d : PyData) : RV := fun v H => Dt H v d
theorem isD_mono (d : PyData) : Mono (isD d) := fun _ _ _ e h => h.mono e
/-- all of a list -/
def AllR : List RV → List V → Hp → Prop
  | [], vs, _ => vs = []
  | R :: Rs, vs, H => ∃ v ws, vs = v :: ws ∧ R v H ∧ AllR Rs ws H
def MonoA : List RV → Prop
  | [] => True
  | R :: Rs => Mono R ∧ MonoA Rs
theorem AllR.mono {H H' : Hp} (e : Ex H H') : ∀ {Rs : List RV} {vs : List V}, MonoA Rs → AllR Rs vs H → AllR Rs vs H'
  | [], _, _, h => h
  | _ :: _, _, m, ⟨v, ws, h1, h2, h3⟩ => ⟨v, ws, h1, m.1 _ _ _ e h2, AllR.mono e m.2 h3⟩
theorem AllR.dt {H : Hp} : ∀ {ds : List PyData} {vs : List V}, AllR (ds.map isD) vs H → DtA H vs ds
  | [], _, h => by rw [show _ = [] from h]; exact .nil
  | _ :: _, _, ⟨v, ws, h1, h2, h3⟩ => by rw [h1]; exact .cons h2 (AllR.dt h3)
theorem monoD : ∀ ds : List PyData, MonoA (ds.map isD)
  | [] => trivial
  | d :: ds => ⟨isD_mono d, monoD ds⟩

def isNon : PyData → Bool
  | .none => true
  | _ => false
/-! ### readings -/
section
variable {X : Cx}
theorem PE_imp {e : Expr} {t t' : TE} (h : PE X e t) (f : ∀ σ H Q, t' σ H Q → t σ H Q) : PE X e t' := ⟨fun pins s σ H Q I q => h.run pins s σ H Q I (f _ _ _ q)⟩
theorem PT_imp {e : Expr} {t t' : TT} (h : PT X e t) (f : ∀ σ H Q, t' σ H Q → t σ H Q) : PT X e t' := ⟨fun pins s σ H Q I q => h.run pins s σ H Q I (f _ _ _ q)⟩
theorem PA_imp {es : List Expr} {t t' : TA} (h : PA X es t) (f : ∀ σ H Q, t' σ H Q → t σ H Q) : PA X es t' := ⟨fun pos pins s σ H Q I q => h.run pos pins s σ H Q I (f _ _ _ q)⟩
theorem PI_imp {tg iter : Expr} {t t' : TI} (h : PI X tg iter t) (f : ∀ σ H Q, t' σ H Q → t σ H Q) : PI X tg iter t' := ⟨fun pins s σ H Q I q => h.run pins s σ H Q I (f _ _ _ q)⟩
theorem PTs_imp {ifs : List Expr} {t t' : TT} (h : PTs X ifs t) (f : ∀ σ H Q, t' σ H Q → t σ H Q) : PTs X ifs t' := ⟨fun pins s σ H Q I q => h.run pins s σ H Q I (f _ _ _ q)⟩
end
/-- from the slots σ0 and a heap over H0 a value comes of which R is true in what S leaves open; all that stood stands -/
def tR (S : List Addr) (σ0 : L2.St) (H0 : Hp) (R : RV) : TE := fun σ H Q => σ = σ0 ∧ Ex H0 H ∧ Al S H ∧ ∀ v H2, Ex H H2 → R v (hid S H2) → Q v H2
def tRT (S : List Addr) (σ0 : L2.St) (H0 : Hp) (b : Bool) : TT := fun σ H Q => σ = σ0 ∧ Ex H0 H ∧ Al S H ∧ ∀ H2, Ex H H2 → Q b H2
def tRA (S : List Addr) (σ0 : L2.St) (H0 : Hp) (Rs : List RV) : TA := fun σ H Q => σ = σ0 ∧ Ex H0 H ∧ Al S H ∧ ∀ vs H2, Ex H H2 → AllR Rs vs (hid S H2) → Q vs H2
/-- what is walked: xs, each of which comes as enc says -/
structure Wk {α : Type} (J : It) (S : List Addr) (H1 : Hp) (xs : List α) (enc : α → RV) : Prop where
  goes : ∀ i S' H, i < xs.length → Ex (hid S H1) (hid S' H) → Al S' H → J.go i H
  stops : ∀ S' H, Ex (hid S H1) (hid S' H) → Al S' H → J.stop xs.length H
  yields : ∀ i a S' H x H', xs[i]? = some a → Ex (hid S H1) (hid S' H) → Al S' H → J.yld i H x H' → Ex H H' ∧ enc a x (hid S' H')
def tW {α : Type} (S : List Addr) (σ0 : L2.St) (H0 : Hp) (xs : List α) (enc : α → RV) : TI := fun σ H R => σ = σ0 ∧ Ex H0 H ∧ Al S H ∧ ∀ J H1, Ex H H1 → Wk J S H1 xs enc → R J H1

section
variable {X : Cx} {S : List Addr} {σ0 : L2.St} {H0 : Hp} {R Ra Rb Rz : RV} {a b e : Expr} {es : List Expr} {pos : Pos} {d : PyData}
/-- earlier facts -/
theorem PE_mono {H1 : Hp} (e1 : Ex H0 H1) (h : PE X e (tR S σ0 H0 R)) : PE X e (tR S σ0 H1 R) := PE_imp h fun _ _ _ ⟨a, b, c, k⟩ => ⟨a, e1.trans b, c, k⟩
theorem PE_wk {R' : RV} (h : PE X e (tR S σ0 H0 R)) (f : ∀ v H, R v H → R' v H) : PE X e (tR S σ0 H0 R') := PE_imp h fun _ _ _ ⟨a, b, c, k⟩ => ⟨a, b, c, fun v H2 e r => k v H2 e (f _ _ r)⟩
theorem r_eq {d' : PyData} (h : PE X e (tR S σ0 H0 (isD d))) (q : d = d') : PE X e (tR S σ0 H0 (isD d')) := q ▸ h
theorem t_eq {c : Expr} {b b' : Bool} (h : PT X c (tRT S σ0 H0 b)) (q : b = b') : PT X c (tRT S σ0 H0 b') := q ▸ h

theorem r_varR {i : Nat} {v : V} (m : Mono R) (h : PE X e (tVar i)) (hσ : σ0[i]? = some (some v)) (hd : R v (hid S H0)) : PE X e (tR S σ0 H0 R) :=
  PE_imp h fun σ H Q ⟨es, e, al, k⟩ => ⟨v, by rw [es]; exact hσ, k v H (Ex.refl _) (m _ _ _ (hid_ex e) hd)⟩
theorem r_var {i : Nat} {v : V} (h : PE X e (tVar i)) (hσ : σ0[i]? = some (some v)) (hd : Dt (hid S H0) v d) : PE X e (tR S σ0 H0 (isD d)) := r_varR (isD_mono d) h hσ hd
theorem r_int {i : Int} {j : Nat} : PE X (.Constant (.int i) j pos) (tR S σ0 H0 (isD (.int i))) := PE_imp pe_int fun σ H Q ⟨_, _, _, k⟩ => k _ H (Ex.refl _) (.int i)
theorem r_bl {b : Bool} {j : Nat} : PE X (.Constant (.bool b) j pos) (tR S σ0 H0 (isD (.bool b))) := PE_imp pe_bl fun σ H Q ⟨_, _, _, k⟩ => k _ H (Ex.refl _) (.bl b)
theorem r_non {j : Nat} : PE X (.Constant .none j pos) (tR S σ0 H0 (isD .none)) := PE_imp pe_non fun σ H Q ⟨_, _, _, k⟩ => k _ H (Ex.refl _) .non
theorem r_str {x : Str} {j : Nat} : PE X (.Constant (.str x) j pos) (tR S σ0 H0 (isD (.str x))) := PE_imp pe_str fun σ H Q ⟨_, _, _, k⟩ => k _ H (Ex.refl _) (.str x)

/-- two operands, by the operation's rule -/
theorem tR_op {r : R2} (hm : Mono Ra) (hr : ∀ x y H, Ex H0 H → Al S H → Ra x (hid S H) → Rb y (hid S H) → ∀ Q : VK, (∀ z H2, Ex H H2 → Rz z (hid S H2) → Q z H2) → r x y H Q) (σ : L2.St) (H : Hp) (Q : VK)
    (h : tR S σ0 H0 Rz σ H Q) : tOp r (tR S σ0 H0 Ra) (tR S σ0 H0 Rb) σ H Q := by
  obtain ⟨es, e, al, k⟩ := h
  exact ⟨es, e, al, fun x H1 e1 ra => ⟨es, e.trans e1, al.ex e1, fun y H2 e2 rb => hr x y H2 ((e.trans e1).trans e2) ((al.ex e1).ex e2) (hm _ _ _ (hid_ex e2) ra) rb Q fun z H3 e3 rz => k z H3 ((e1.trans e2).trans e3) rz⟩⟩
theorem r_op {op : Operator} {r : R2} (ho : OpR X (binaryOp op) r) (ha : PE X a (tR S σ0 H0 Ra)) (hb : PE X b (tR S σ0 H0 Rb)) (hm : Mono Ra)
    (hr : ∀ x y H, Ex H0 H → Al S H → Ra x (hid S H) → Rb y (hid S H) → ∀ Q : VK, (∀ z H2, Ex H H2 → Rz z (hid S H2) → Q z H2) → r x y H Q) : PE X (.BinOp a op b pos) (tR S σ0 H0 Rz) :=
  PE_imp (pe_op ho ha hb) (tR_op hm hr)
theorem r_cmp {op : CmpOp} {r : R2} (ho : OpR X (compareOp op) r) (ha : PE X a (tR S σ0 H0 Ra)) (hb : PE X b (tR S σ0 H0 Rb)) (hm : Mono Ra)
    (hr : ∀ x y H, Ex H0 H → Al S H → Ra x (hid S H) → Rb y (hid S H) → ∀ Q : VK, (∀ z H2, Ex H H2 → Rz z (hid S H2) → Q z H2) → r x y H Q) (hk : behindInMarks op b = false) : PE X (.Compare a [op] [b] pos) (tR S σ0 H0 Rz) :=
  PE_imp (pe_cmpR ho ha hb hk) (tR_op hm hr)
/-- two ints -/
theorem r_op_int {op : Operator} {g : Int → Int → Int} {i j : Int} (ho : OpR X (binaryOp op) (rI0 fun i j => .int (g i j))) (ha : PE X a (tR S σ0 H0 (isD (.int i)))) (hb : PE X b (tR S σ0 H0 (isD (.int j)))) :
    PE X (.BinOp a op b pos) (tR S σ0 H0 (isD (.int (g i j)))) :=
  r_op ho ha hb (isD_mono _) fun x y H _ _ hx hy Q k => ⟨i, j, hx.intI, hy.intI, k _ H (Ex.refl _) (.int _)⟩
theorem r_add {i j : Int} (ha : PE X a (tR S σ0 H0 (isD (.int i)))) (hb : PE X b (tR S σ0 H0 (isD (.int j)))) : PE X (.BinOp a .Add b pos) (tR S σ0 H0 (isD (.int (i + j)))) := r_op_int op_add ha hb
theorem r_sub {i j : Int} (ha : PE X a (tR S σ0 H0 (isD (.int i)))) (hb : PE X b (tR S σ0 H0 (isD (.int j)))) : PE X (.BinOp a .Sub b pos) (tR S σ0 H0 (isD (.int (i - j)))) := r_op_int op_sub ha hb
theorem r_mul {i j : Int} (ha : PE X a (tR S σ0 H0 (isD (.int i)))) (hb : PE X b (tR S σ0 H0 (isD (.int j)))) (hc : CMul i j) : PE X (.BinOp a .Mult b pos) (tR S σ0 H0 (isD (.int (i * j)))) :=
  r_op op_mul ha hb (isD_mono _) fun x y H _ _ hx hy Q k => ⟨i, j, hx.intI, hy.intI, hc, k _ H (Ex.refl _) (.int _)⟩
theorem r_mod {i j : Int} (ha : PE X a (tR S σ0 H0 (isD (.int i)))) (hb : PE X b (tR S σ0 H0 (isD (.int j)))) (hc : 0 < j) : PE X (.BinOp a .Mod b pos) (tR S σ0 H0 (isD (.int (i % j)))) :=
  r_op op_mod ha hb (isD_mono _) fun x y H _ _ hx hy Q k => ⟨i, j, hx.intI, hy.intI, hc, k _ H (Ex.refl _) (.int _)⟩
theorem r_fdiv {i j : Int} (ha : PE X a (tR S σ0 H0 (isD (.int i)))) (hb : PE X b (tR S σ0 H0 (isD (.int j)))) (hc : CDiv i j) : PE X (.BinOp a .FloorDiv b pos) (tR S σ0 H0 (isD (.int (i / j)))) :=
  r_op op_fdiv ha hb (isD_mono _) fun x y H _ _ hx hy Q k => ⟨i, j, hx.intI, hy.intI, hc, k _ H (Ex.refl _) (.int _)⟩
theorem r_pow {i j : Int} (ha : PE X a (tR S σ0 H0 (isD (.int i)))) (hb : PE X b (tR S σ0 H0 (isD (.int j)))) (hc : CPow i j) : PE X (.BinOp a .Pow b pos) (tR S σ0 H0 (isD (.int (i ^ j.toNat)))) :=
  r_op op_pow ha hb (isD_mono _) fun x y H _ _ hx hy Q k => ⟨i, j, hx.intI, hy.intI, hc, k _ H (Ex.refl _) (.int _)⟩
theorem r_cmp_int {op : CmpOp} {g : Int → Int → Bool} {i j : Int} (ho : OpR X (compareOp op) (rI0 fun i j => .bl (g i j))) (ha : PE X a (tR S σ0 H0 (isD (.int i)))) (hb : PE X b (tR S σ0 H0 (isD (.int j)))) (hk : behindInMarks op b = false) :
    PE X (.Compare a [op] [b] pos) (tR S σ0 H0 (isD (.bool (g i j)))) :=
  r_cmp ho ha hb (isD_mono _) (fun x y H _ _ hx hy Q k => ⟨i, j, hx.intI, hy.intI, k _ H (Ex.refl _) (.bl _)⟩) hk
theorem r_lt {i j : Int} (ha : PE X a (tR S σ0 H0 (isD (.int i)))) (hb : PE X b (tR S σ0 H0 (isD (.int j)))) : PE X (.Compare a [.Lt] [b] pos) (tR S σ0 H0 (isD (.bool (decide (i < j))))) := r_cmp_int op_lt ha hb (nomark _)
theorem r_le {i j : Int} (ha : PE X a (tR S σ0 H0 (isD (.int i)))) (hb : PE X b (tR S σ0 H0 (isD (.int j)))) : PE X (.Compare a [.LtE] [b] pos) (tR S σ0 H0 (isD (.bool (decide (i ≤ j))))) := r_cmp_int op_le ha hb (nomark _)
theorem r_gt {i j : Int} (ha : PE X a (tR S σ0 H0 (isD (.int i)))) (hb : PE X b (tR S σ0 H0 (isD (.int j)))) : PE X (.Compare a [.Gt] [b] pos) (tR S σ0 H0 (isD (.bool (decide (j < i))))) := r_cmp_int op_gt ha hb (nomark _)
theorem r_ge {i j : Int} (ha : PE X a (tR S σ0 H0 (isD (.int i)))) (hb : PE X b (tR S σ0 H0 (isD (.int j)))) : PE X (.Compare a [.GtE] [b] pos) (tR S σ0 H0 (isD (.bool (decide (j ≤ i))))) := r_cmp_int op_ge ha hb (nomark _)
/-- == of data -/
theorem r_eqD {d1 d2 : PyData} (hu : X.A.units + 64 < cLine) (ha : PE X a (tR S σ0 H0 (isD d1))) (hb : PE X b (tR S σ0 H0 (isD d2))) (s1 : SeqAt.shaped d1 = true) (s2 : SeqAt.shaped d2 = true) : PE X (.Compare a [.Eq] [b] pos) (tR S σ0 H0 (isD (.bool (PyData.eqv d1 d2)))) :=
  r_cmp (op_eqD hu) ha hb (isD_mono _) (fun x y H _ _ hx hy Q k => ⟨d1, d2, (hx.mono hid_le).dp, (hy.mono hid_le).dp, s1, s2, k _ H (Ex.refl _) (.bl _)⟩) (nomark _)
theorem r_neD {d1 d2 : PyData} (hu : X.A.units + 64 < cLine) (ha : PE X a (tR S σ0 H0 (isD d1))) (hb : PE X b (tR S σ0 H0 (isD d2))) (s1 : SeqAt.shaped d1 = true) (s2 : SeqAt.shaped d2 = true) : PE X (.Compare a [.NotEq] [b] pos) (tR S σ0 H0 (isD (.bool (!PyData.eqv d1 d2)))) :=
  r_cmp (op_neD hu) ha hb (isD_mono _) (fun x y H _ _ hx hy Q k => ⟨d1, d2, (hx.mono hid_le).dp, (hy.mono hid_le).dp, s1, s2, k _ H (Ex.refl _) (.bl _)⟩) (nomark _)
theorem r_eqI {i j : Int} (ha : PE X a (tR S σ0 H0 (isD (.int i)))) (hb : PE X b (tR S σ0 H0 (isD (.int j)))) : PE X (.Compare a [.Eq] [b] pos) (tR S σ0 H0 (isD (.bool (decide (i = j))))) :=
  r_cmp op_eq ha hb (isD_mono _) (fun x y H _ _ hx hy Q k => by
    have e1 := hx.intI; have e2 := hy.intI; subst e1 e2
    refine ⟨rfl, ?_⟩
    have e : decide (V.int i = V.int j) = decide (i = j) := by rw [dec_int]; exact Bool.beq_eq_decide_eq i j
    rw [e]; exact k _ H (Ex.refl _) (.bl _)) (nomark _)
theorem r_neI {i j : Int} (ha : PE X a (tR S σ0 H0 (isD (.int i)))) (hb : PE X b (tR S σ0 H0 (isD (.int j)))) : PE X (.Compare a [.NotEq] [b] pos) (tR S σ0 H0 (isD (.bool (!decide (i = j))))) :=
  r_cmp op_ne ha hb (isD_mono _) (fun x y H _ _ hx hy Q k => by
    have e1 := hx.intI; have e2 := hy.intI; subst e1 e2
    refine ⟨rfl, ?_⟩
    have e : decide (V.int i = V.int j) = decide (i = j) := by rw [dec_int]; exact Bool.beq_eq_decide_eq i j
    rw [e]; exact k _ H (Ex.refl _) (.bl _)) (nomark _)
theorem r_eqS {i j : Str} (ha : PE X a (tR S σ0 H0 (isD (.str i)))) (hb : PE X b (tR S σ0 H0 (isD (.str j)))) : PE X (.Compare a [.Eq] [b] pos) (tR S σ0 H0 (isD (.bool (decide (i = j))))) :=
  r_cmp op_eq ha hb (isD_mono _) (fun x y H _ _ hx hy Q k => by
    have e1 := hx.strI; have e2 := hy.strI; subst e1 e2
    refine ⟨rfl, ?_⟩
    have e : decide (V.str i = V.str j) = decide (i = j) := by
      by_cases q : i = j
      · rw [q]; simp
      · rw [decide_eq_false q, decide_eq_false (fun z => q (V.str.inj z))]
    rw [e]; exact k _ H (Ex.refl _) (.bl _)) (nomark _)
theorem r_neS {i j : Str} (ha : PE X a (tR S σ0 H0 (isD (.str i)))) (hb : PE X b (tR S σ0 H0 (isD (.str j)))) : PE X (.Compare a [.NotEq] [b] pos) (tR S σ0 H0 (isD (.bool (!decide (i = j))))) :=
  r_cmp op_ne ha hb (isD_mono _) (fun x y H _ _ hx hy Q k => by
    have e1 := hx.strI; have e2 := hy.strI; subst e1 e2
    refine ⟨rfl, ?_⟩
    have e : decide (V.str i = V.str j) = decide (i = j) := by
      by_cases q : i = j
      · rw [q]; simp
      · rw [decide_eq_false q, decide_eq_false (fun z => q (V.str.inj z))]
    rw [e]; exact k _ H (Ex.refl _) (.bl _)) (nomark _)
/-- is None -/
theorem r_isN {j : Nat} {p' : Pos} (ha : PE X a (tR S σ0 H0 (isD d))) : PE X (.Compare a [.Is] [.Constant .none j p'] pos) (tR S σ0 H0 (isD (.bool (isNon d)))) :=
  r_cmp op_isN ha (r_non (S := S) (σ0 := σ0) (H0 := H0)) (isD_mono _) (fun x y H _ _ hx hy Q k => by
    refine ⟨hy.nonI, ?_⟩
    have e : decide (x = .non) = isNon d := by
      cases hx <;> rfl
    rw [e]; exact k _ H (Ex.refl _) (.bl _)) (nomark _)
theorem r_notN {j : Nat} {p' : Pos} (ha : PE X a (tR S σ0 H0 (isD d))) : PE X (.Compare a [.IsNot] [.Constant .none j p'] pos) (tR S σ0 H0 (isD (.bool (!isNon d)))) :=
  r_cmp op_notN ha (r_non (S := S) (σ0 := σ0) (H0 := H0)) (isD_mono _) (fun x y H _ _ hx hy Q k => by
    refine ⟨hy.nonI, ?_⟩
    have e : (!decide (x = .non)) = (!isNon d) := by
      cases hx <;> rfl
    rw [e]; exact k _ H (Ex.refl _) (.bl _)) (nomark _)
/-- in a list of data -/
theorem r_inL {d1 : PyData} {ds : List PyData} (hu : X.A.units + 65 < cLine) (ha : PE X a (tR S σ0 H0 (isD d1))) (hb : PE X b (tR S σ0 H0 (isD (.list ds)))) (s1 : SeqAt.shaped d1 = true) (s2 : SeqAt.shaped (.list ds) = true) (hk : behindInMarks .In b = false := by rfl) :
    PE X (.Compare a [.In] [b] pos) (tR S σ0 H0 (isD (.bool (ds.any fun z => PyData.eqv z d1)))) :=
  r_cmp (op_inD hu) ha hb (isD_mono _) (fun x y H _ _ hx hy Q k => ⟨d1, ds, (hx.mono hid_le).dp, (hy.mono hid_le).dp, s1, s2, k _ H (Ex.refl _) (.bl _)⟩) hk
theorem r_notInL {d1 : PyData} {ds : List PyData} (hu : X.A.units + 65 < cLine) (ha : PE X a (tR S σ0 H0 (isD d1))) (hb : PE X b (tR S σ0 H0 (isD (.list ds)))) (s1 : SeqAt.shaped d1 = true) (s2 : SeqAt.shaped (.list ds) = true) (hk : behindInMarks .NotIn b = false := by rfl) :
    PE X (.Compare a [.NotIn] [b] pos) (tR S σ0 H0 (isD (.bool (!ds.any fun z => PyData.eqv z d1)))) :=
  r_cmp (op_notInD hu) ha hb (isD_mono _) (fun x y H _ _ hx hy Q k => ⟨d1, ds, (hx.mono hid_le).dp, (hy.mono hid_le).dp, s1, s2, k _ H (Ex.refl _) (.bl _)⟩) hk

/-! ### bools, tests -/
theorem r_and {x y : Bool} {rest : List Expr} (ha : PE X a (tR S σ0 H0 (isD (.bool x)))) (hb : x = true → PE X (.BoolOp .And (b :: rest) pos) (tR S σ0 H0 (isD (.bool y)))) : PE X (.BoolOp .And (a :: b :: rest) pos) (tR S σ0 H0 (isD (.bool (x && y)))) := by
  cases x with
  | true => exact PE_imp (pe_and ha (hb rfl)) fun σ H Q ⟨es, e, al, k⟩ => ⟨es, e, al, fun v H1 e1 rv => ⟨true, rv.blI, iteT <| ⟨es, e.trans e1, al.ex e1, fun v H2 e2 r => k v H2 (e1.trans e2) r⟩⟩⟩
  | false => exact PE_imp (pe_and (tb := fun σ H Q => ∀ pins s, Inv X pins σ H s → wpAny (model X.prog X.w) X.A (eval (.BoolOp .And (b :: rest) pos) X.env) (EP X pins σ Q) X.xe s) ha ⟨fun pins s σ H Q I h => h pins s I⟩) fun σ H Q ⟨es, e, al, k⟩ => ⟨es, e, al, fun v H1 e1 rv => ⟨false, rv.blI, iteF <| k _ _ e1 (.bl _)⟩⟩
theorem r_or {x y : Bool} {rest : List Expr} (ha : PE X a (tR S σ0 H0 (isD (.bool x)))) (hb : x = false → PE X (.BoolOp .Or (b :: rest) pos) (tR S σ0 H0 (isD (.bool y)))) : PE X (.BoolOp .Or (a :: b :: rest) pos) (tR S σ0 H0 (isD (.bool (x || y)))) := by
  cases x with
  | false => exact PE_imp (pe_or ha (hb rfl)) fun σ H Q ⟨es, e, al, k⟩ => ⟨es, e, al, fun v H1 e1 rv => ⟨false, rv.blI, iteF <| ⟨es, e.trans e1, al.ex e1, fun v H2 e2 r => k v H2 (e1.trans e2) r⟩⟩⟩
  | true => exact PE_imp (pe_or (tb := fun σ H Q => ∀ pins s, Inv X pins σ H s → wpAny (model X.prog X.w) X.A (eval (.BoolOp .Or (b :: rest) pos) X.env) (EP X pins σ Q) X.xe s) ha ⟨fun pins s σ H Q I h => h pins s I⟩) fun σ H Q ⟨es, e, al, k⟩ => ⟨es, e, al, fun v H1 e1 rv => ⟨true, rv.blI, iteT <| k _ _ e1 (.bl _)⟩⟩
theorem r_one {op : BoolOp} (h : PE X a (tR S σ0 H0 R)) : PE X (.BoolOp op [a] pos) (tR S σ0 H0 R) := pe_one h
theorem r_not {x : Bool} (h : PE X a (tR S σ0 H0 (isD (.bool x)))) : PE X (.UnaryOp .Not a pos) (tR S σ0 H0 (isD (.bool (!x)))) :=
  PE_imp (pe_not h) fun σ H Q ⟨es, e, al, k⟩ => ⟨es, e, al, fun v H1 e1 rv => ⟨x, rv.blI, k _ _ e1 (.bl _)⟩⟩
/-- a test that is a bool's value -/
theorem t_val {b : Bool} (h : PE X e (tR S σ0 H0 (isD (.bool b)))) (he : ∀ whole, isTrue e X.env whole = (do let v ← whole; standAt e.pos; holding [v] (truthy v)) := by intro _; rfl) : PT X e (tRT S σ0 H0 b) :=
  PT_imp (pt_val h he) fun σ H Q ⟨es, e, al, k⟩ => ⟨es, e, al, fun v H1 e1 rv => ⟨b, rv.blI, k _ e1⟩⟩
theorem PT_cmp_of {op : CmpOp} {r : R2} {x : Bool} (ho : OpR X (compareOp op) r) (ha : PE X a (tR S σ0 H0 Ra)) (hb : PE X b (tR S σ0 H0 Rb)) (hm : Mono Ra)
    (hr : ∀ x' y H, Ex H0 H → Al S H → Ra x' (hid S H) → Rb y (hid S H) → ∀ Q : VK, (∀ z H2, Ex H H2 → Dt (hid S H2) z (.bool x) → Q z H2) → r x' y H Q) (hk : behindInMarks op b = false) : PT X (.Compare a [op] [b] pos) (tRT S σ0 H0 x) :=
  PT_imp (pt_cmpR ho ha hb hk) fun σ H Q ⟨es, e, al, k⟩ => by
    exact ⟨es, e, al, fun u H1 e1 ra => ⟨es, e.trans e1, al.ex e1, fun v H2 e2 rb => hr u v H2 ((e.trans e1).trans e2) ((al.ex e1).ex e2) (hm _ _ _ (hid_ex e2) ra) rb _ fun z H3 e3 rz => ⟨x, rz.blI, k H3 ((e1.trans e2).trans e3)⟩⟩⟩
theorem t_cmp_int {op : CmpOp} {g : Int → Int → Bool} {i j : Int} (ho : OpR X (compareOp op) (rI0 fun i j => .bl (g i j))) (ha : PE X a (tR S σ0 H0 (isD (.int i)))) (hb : PE X b (tR S σ0 H0 (isD (.int j)))) (hk : behindInMarks op b = false) :
    PT X (.Compare a [op] [b] pos) (tRT S σ0 H0 ((g i j))) :=
  PT_cmp_of ho ha hb (isD_mono _) (fun x y H _ _ hx hy Q k => ⟨i, j, hx.intI, hy.intI, k _ H (Ex.refl _) (.bl _)⟩) hk

theorem t_lt {i j : Int} (ha : PE X a (tR S σ0 H0 (isD (.int i)))) (hb : PE X b (tR S σ0 H0 (isD (.int j)))) : PT X (.Compare a [.Lt] [b] pos) (tRT S σ0 H0 ((decide (i < j)))) := t_cmp_int op_lt ha hb (nomark _)

theorem t_le {i j : Int} (ha : PE X a (tR S σ0 H0 (isD (.int i)))) (hb : PE X b (tR S σ0 H0 (isD (.int j)))) : PT X (.Compare a [.LtE] [b] pos) (tRT S σ0 H0 ((decide (i ≤ j)))) := t_cmp_int op_le ha hb (nomark _)

theorem t_gt {i j : Int} (ha : PE X a (tR S σ0 H0 (isD (.int i)))) (hb : PE X b (tR S σ0 H0 (isD (.int j)))) : PT X (.Compare a [.Gt] [b] pos) (tRT S σ0 H0 ((decide (j < i)))) := t_cmp_int op_gt ha hb (nomark _)

theorem t_ge {i j : Int} (ha : PE X a (tR S σ0 H0 (isD (.int i)))) (hb : PE X b (tR S σ0 H0 (isD (.int j)))) : PT X (.Compare a [.GtE] [b] pos) (tRT S σ0 H0 ((decide (j ≤ i)))) := t_cmp_int op_ge ha hb (nomark _)

theorem t_eqD {d1 d2 : PyData} (hu : X.A.units + 64 < cLine) (ha : PE X a (tR S σ0 H0 (isD d1))) (hb : PE X b (tR S σ0 H0 (isD d2))) (s1 : SeqAt.shaped d1 = true) (s2 : SeqAt.shaped d2 = true) : PT X (.Compare a [.Eq] [b] pos) (tRT S σ0 H0 ((PyData.eqv d1 d2))) :=
  PT_cmp_of (op_eqD hu) ha hb (isD_mono _) (fun x y H _ _ hx hy Q k => ⟨d1, d2, (hx.mono hid_le).dp, (hy.mono hid_le).dp, s1, s2, k _ H (Ex.refl _) (.bl _)⟩) (nomark _)

theorem t_neD {d1 d2 : PyData} (hu : X.A.units + 64 < cLine) (ha : PE X a (tR S σ0 H0 (isD d1))) (hb : PE X b (tR S σ0 H0 (isD d2))) (s1 : SeqAt.shaped d1 = true) (s2 : SeqAt.shaped d2 = true) : PT X (.Compare a [.NotEq] [b] pos) (tRT S σ0 H0 ((!PyData.eqv d1 d2))) :=
  PT_cmp_of (op_neD hu) ha hb (isD_mono _) (fun x y H _ _ hx hy Q k => ⟨d1, d2, (hx.mono hid_le).dp, (hy.mono hid_le).dp, s1, s2, k _ H (Ex.refl _) (.bl _)⟩) (nomark _)

theorem t_eqI {i j : Int} (ha : PE X a (tR S σ0 H0 (isD (.int i)))) (hb : PE X b (tR S σ0 H0 (isD (.int j)))) : PT X (.Compare a [.Eq] [b] pos) (tRT S σ0 H0 ((decide (i = j)))) :=
  PT_cmp_of op_eq ha hb (isD_mono _) (fun x y H _ _ hx hy Q k => by
    have e1 := hx.intI; have e2 := hy.intI; subst e1 e2
    refine ⟨rfl, ?_⟩
    have e : decide (V.int i = V.int j) = decide (i = j) := by rw [dec_int]; exact Bool.beq_eq_decide_eq i j
    rw [e]; exact k _ H (Ex.refl _) (.bl _)) (nomark _)

theorem t_neI {i j : Int} (ha : PE X a (tR S σ0 H0 (isD (.int i)))) (hb : PE X b (tR S σ0 H0 (isD (.int j)))) : PT X (.Compare a [.NotEq] [b] pos) (tRT S σ0 H0 ((!decide (i = j)))) :=
  PT_cmp_of op_ne ha hb (isD_mono _) (fun x y H _ _ hx hy Q k => by
    have e1 := hx.intI; have e2 := hy.intI; subst e1 e2
    refine ⟨rfl, ?_⟩
    have e : decide (V.int i = V.int j) = decide (i = j) := by rw [dec_int]; exact Bool.beq_eq_decide_eq i j
    rw [e]; exact k _ H (Ex.refl _) (.bl _)) (nomark _)

theorem t_eqS {i j : Str} (ha : PE X a (tR S σ0 H0 (isD (.str i)))) (hb : PE X b (tR S σ0 H0 (isD (.str j)))) : PT X (.Compare a [.Eq] [b] pos) (tRT S σ0 H0 ((decide (i = j)))) :=
  PT_cmp_of op_eq ha hb (isD_mono _) (fun x y H _ _ hx hy Q k => by
    have e1 := hx.strI; have e2 := hy.strI; subst e1 e2
    refine ⟨rfl, ?_⟩
    have e : decide (V.str i = V.str j) = decide (i = j) := by
      by_cases q : i = j
      · rw [q]; simp
      · rw [decide_eq_false q, decide_eq_false (fun z => q (V.str.inj z))]
    rw [e]; exact k _ H (Ex.refl _) (.bl _)) (nomark _)

theorem t_neS {i j : Str} (ha : PE X a (tR S σ0 H0 (isD (.str i)))) (hb : PE X b (tR S σ0 H0 (isD (.str j)))) : PT X (.Compare a [.NotEq] [b] pos) (tRT S σ0 H0 ((!decide (i = j)))) :=
  PT_cmp_of op_ne ha hb (isD_mono _) (fun x y H _ _ hx hy Q k => by
    have e1 := hx.strI; have e2 := hy.strI; subst e1 e2
    refine ⟨rfl, ?_⟩
    have e : decide (V.str i = V.str j) = decide (i = j) := by
      by_cases q : i = j
      · rw [q]; simp
      · rw [decide_eq_false q, decide_eq_false (fun z => q (V.str.inj z))]
    rw [e]; exact k _ H (Ex.refl _) (.bl _)) (nomark _)

theorem t_isN {j : Nat} {p' : Pos} (ha : PE X a (tR S σ0 H0 (isD d))) : PT X (.Compare a [.Is] [.Constant .none j p'] pos) (tRT S σ0 H0 ((isNon d))) :=
  PT_cmp_of op_isN ha (r_non (S := S) (σ0 := σ0) (H0 := H0)) (isD_mono _) (fun x y H _ _ hx hy Q k => by
    refine ⟨hy.nonI, ?_⟩
    have e : decide (x = .non) = isNon d := by
      cases hx <;> rfl
    rw [e]; exact k _ H (Ex.refl _) (.bl _)) (nomark _)

theorem t_notN {j : Nat} {p' : Pos} (ha : PE X a (tR S σ0 H0 (isD d))) : PT X (.Compare a [.IsNot] [.Constant .none j p'] pos) (tRT S σ0 H0 ((!isNon d))) :=
  PT_cmp_of op_notN ha (r_non (S := S) (σ0 := σ0) (H0 := H0)) (isD_mono _) (fun x y H _ _ hx hy Q k => by
    refine ⟨hy.nonI, ?_⟩
    have e : (!decide (x = .non)) = (!isNon d) := by
      cases hx <;> rfl
    rw [e]; exact k _ H (Ex.refl _) (.bl _)) (nomark _)

theorem t_inL {d1 : PyData} {ds : List PyData} (hu : X.A.units + 65 < cLine) (ha : PE X a (tR S σ0 H0 (isD d1))) (hb : PE X b (tR S σ0 H0 (isD (.list ds)))) (s1 : SeqAt.shaped d1 = true) (s2 : SeqAt.shaped (.list ds) = true) (hk : behindInMarks .In b = false := by rfl) :
    PT X (.Compare a [.In] [b] pos) (tRT S σ0 H0 ((ds.any fun z => PyData.eqv z d1))) :=
  PT_cmp_of (op_inD hu) ha hb (isD_mono _) (fun x y H _ _ hx hy Q k => ⟨d1, ds, (hx.mono hid_le).dp, (hy.mono hid_le).dp, s1, s2, k _ H (Ex.refl _) (.bl _)⟩) hk

theorem t_notInL {d1 : PyData} {ds : List PyData} (hu : X.A.units + 65 < cLine) (ha : PE X a (tR S σ0 H0 (isD d1))) (hb : PE X b (tR S σ0 H0 (isD (.list ds)))) (s1 : SeqAt.shaped d1 = true) (s2 : SeqAt.shaped (.list ds) = true) (hk : behindInMarks .NotIn b = false := by rfl) :
    PT X (.Compare a [.NotIn] [b] pos) (tRT S σ0 H0 ((!ds.any fun z => PyData.eqv z d1))) :=
  PT_cmp_of (op_notInD hu) ha hb (isD_mono _) (fun x y H _ _ hx hy Q k => ⟨d1, ds, (hx.mono hid_le).dp, (hy.mono hid_le).dp, s1, s2, k _ H (Ex.refl _) (.bl _)⟩) hk

theorem t_not {c : Expr} {x : Bool} (h : PT X c (tRT S σ0 H0 x)) : PT X (.UnaryOp .Not c pos) (tRT S σ0 H0 (!x)) := PT_imp (pt_not h) fun σ H Q ⟨es, e, al, k⟩ => ⟨es, e, al, fun H2 e2 => k H2 e2⟩
structure QT (X : Cx) (e : Expr) (t : TT) : Prop where
  pw : PW X e t
theorem QT.pt {e : Expr} {t : TT} (h : QT X e t) : PT X e t := h.pw.pt
theorem q_one_and {c : Expr} {x : Bool} (h : PT X c (tRT S σ0 H0 x)) : QT X (.BoolOp .And [c] pos) (tRT S σ0 H0 x) := ⟨pw_and1 h⟩
theorem q_one_or {c : Expr} {x : Bool} (h : PT X c (tRT S σ0 H0 x)) : QT X (.BoolOp .Or [c] pos) (tRT S σ0 H0 x) := ⟨pw_or1 h⟩
theorem PW_imp {t t' : TT} (h : PW X e t) (f : ∀ σ H Q, t' σ H Q → t σ H Q) : PW X e t' := ⟨fun w pins s σ H Q I q => h.run w pins s σ H Q I (f _ _ _ q)⟩
theorem q_and {x y : Bool} {rest : List Expr} (ha : PT X a (tRT S σ0 H0 x)) (hb : x = true → QT X (.BoolOp .And (b :: rest) pos) (tRT S σ0 H0 y)) : QT X (.BoolOp .And (a :: b :: rest) pos) (tRT S σ0 H0 (x && y)) := by
  cases x with
  | true => exact ⟨PW_imp (pw_and ha (hb rfl).pw) fun σ H Q ⟨es, e, al, k⟩ => ⟨es, e, al, fun H1 e1 => iteT <| ⟨es, e.trans e1, al.ex e1, fun H2 e2 => k H2 (e1.trans e2)⟩⟩⟩
  | false => exact ⟨PW_imp (pw_and (tB' := fun σ H Q => ∀ whole pins s, Inv X pins σ H s → wpAny (model X.prog X.w) X.A (isTrue (.BoolOp .And (b :: rest) pos) X.env whole) (TP X pins σ Q) X.xe s) ha ⟨fun whole pins s σ H Q I h => h whole pins s I⟩) fun σ H Q ⟨es, e, al, k⟩ => ⟨es, e, al, fun H1 e1 => iteF <| k _ e1⟩⟩
theorem q_or {x y : Bool} {rest : List Expr} (ha : PT X a (tRT S σ0 H0 x)) (hb : x = false → QT X (.BoolOp .Or (b :: rest) pos) (tRT S σ0 H0 y)) : QT X (.BoolOp .Or (a :: b :: rest) pos) (tRT S σ0 H0 (x || y)) := by
  cases x with
  | false => exact ⟨PW_imp (pw_or ha (hb rfl).pw) fun σ H Q ⟨es, e, al, k⟩ => ⟨es, e, al, fun H1 e1 => iteF <| ⟨es, e.trans e1, al.ex e1, fun H2 e2 => k H2 (e1.trans e2)⟩⟩⟩
  | true => exact ⟨PW_imp (pw_or (tB' := fun σ H Q => ∀ whole pins s, Inv X pins σ H s → wpAny (model X.prog X.w) X.A (isTrue (.BoolOp .Or (b :: rest) pos) X.env whole) (TP X pins σ Q) X.xe s) ha ⟨fun whole pins s σ H Q I h => h whole pins s I⟩) fun σ H Q ⟨es, e, al, k⟩ => ⟨es, e, al, fun H1 e1 => iteT <| k _ e1⟩⟩
/-- any expression at all -/
def tAll (X : Cx) (e : Expr) : TE := fun σ H Q => ∀ pins s, Inv X pins σ H s → wpAny (model X.prog X.w) X.A (eval e X.env) (EP X pins σ Q) X.xe s
theorem pe_all (X : Cx) (e : Expr) : PE X e (tAll X e) := ⟨fun pins s σ H Q I h => h pins s I⟩
theorem r_if {c : Expr} {x : Bool} (hc : PT X c (tRT S σ0 H0 x)) (ha : x = true → PE X a (tR S σ0 H0 R)) (hb : x = false → PE X b (tR S σ0 H0 R)) : PE X (.IfExp c a b pos) (tR S σ0 H0 R) := by
  cases x with
  | true => exact PE_imp (pe_ifExp hc (ha rfl) (pe_all X b)) fun σ H Q ⟨es, e, al, k⟩ => ⟨es, e, al, fun H1 e1 => iteT <| ⟨es, e.trans e1, al.ex e1, fun v H2 e2 r => k v H2 (e1.trans e2) r⟩⟩
  | false => exact PE_imp (pe_ifExp hc (pe_all X a) (hb rfl)) fun σ H Q ⟨es, e, al, k⟩ => ⟨es, e, al, fun H1 e1 => iteF <| ⟨es, e.trans e1, al.ex e1, fun v H2 e2 r => k v H2 (e1.trans e2) r⟩⟩

/-! ### arguments, displays -/
theorem ra_nil : PA X [] (tRA S σ0 H0 []) := PA_imp pa_nil fun σ H Q ⟨_, _, _, k⟩ => k [] H (Ex.refl _) rfl
theorem ra_cons {Rs : List RV} (hm : Mono R) (ha : PE X e (tR S σ0 H0 R)) (hr : PA X es (tRA S σ0 H0 Rs)) (hs : starEach (e :: es) X.env = (false, eval e X.env) :: starEach es X.env := by rfl) : PA X (e :: es) (tRA S σ0 H0 (R :: Rs)) :=
  PA_imp (pa_cons ha hr hs) fun σ H Q ⟨q, e, al, k⟩ => ⟨q, e, al, fun x H1 e1 rx => ⟨q, e.trans e1, al.ex e1, fun xs H2 e2 rs => k _ H2 (e1.trans e2) ⟨x, xs, rfl, hm _ _ _ (hid_ex e2) rx, rs⟩⟩⟩
theorem ra_D {Rs : List RV} (ha : PE X e (tR S σ0 H0 (isD d))) (hr : PA X es (tRA S σ0 H0 Rs)) (hs : starEach (e :: es) X.env = (false, eval e X.env) :: starEach es X.env := by rfl) : PA X (e :: es) (tRA S σ0 H0 (isD d :: Rs)) := ra_cons (isD_mono d) ha hr hs
theorem ra_1 (ha : PE X e (tR S σ0 H0 (isD d))) (hs : starEach [e] X.env = (false, eval e X.env) :: starEach [] X.env := by rfl) : PA X [e] (tRA S σ0 H0 ([d].map isD)) := ra_D ha ra_nil hs
theorem sz {n : Nat} (h : n ≤ 100000) : n ≤ sizeLine := Nat.le_trans h (by decide)
theorem szlt {n : Nat} (h : n < 100000) : n < sizeLine := Nat.lt_of_lt_of_le h (by decide)
/-- a new object stands in what is open -/
theorem hid_new {H : Hp} {p : Addr} {o : HO} (al : Al S H) (h : H p = none) : hid S (upd H p o) p = some o := by
  rw [hid_out (al.out h), upd_same]
theorem r_tup {ds : List PyData} {k : Nat} (h : PA X es (tRA S σ0 H0 (ds.map isD))) (hl : ds.length ≤ 100000 := by exact Nat.le_of_ble_eq_true rfl) : PE X (.Tuple es k pos) (tR S σ0 H0 (isD (.tuple ds))) :=
  PE_imp (pe_tup h) fun σ H Q ⟨q, e, al, k⟩ => ⟨q, e, al, fun vs H1 e1 rs => ⟨sz (by rw [rs.dt.length]; exact hl), fun p hp => k _ _ (e1.trans (Ex.new hp)) (.tup (hid_new (al.ex e1) hp) (rs.dt.mono (hid_ex (Ex.new hp))))⟩⟩
theorem r_lst {ds : List PyData} (h : PA X es (tRA S σ0 H0 (ds.map isD))) (hl : ds.length ≤ 100000 := by exact Nat.le_of_ble_eq_true rfl) : PE X (.List es pos) (tR S σ0 H0 (isD (.list ds))) :=
  PE_imp (pe_lst h) fun σ H Q ⟨q, e, al, k⟩ => ⟨q, e, al, fun vs H1 e1 rs => ⟨sz (by rw [rs.dt.length]; exact hl), fun p hp => k _ _ (e1.trans (Ex.new hp)) (.lst (hid_new (al.ex e1) hp) (rs.dt.mono (hid_ex (Ex.new hp))))⟩⟩

/-! ### calls -/
theorem tR_cb {r : List V → Hp → VK → Prop} {Rs : List RV} (hr : ∀ vs H, Ex H0 H → Al S H → AllR Rs vs (hid S H) → ∀ Q : VK, (∀ z H2, Ex H H2 → Rz z (hid S H2) → Q z H2) → r vs H Q) (σ : L2.St) (H : Hp) (Q : VK)
    (h : tR S σ0 H0 Rz σ H Q) : tCB r (tRA S σ0 H0 Rs) σ H Q := by
  obtain ⟨es, e, al, k⟩ := h
  exact ⟨es, e, al, fun vs H1 e1 ra => hr vs H1 (e.trans e1) (al.ex e1) ra Q fun z H2 e2 rz => k z H2 (e1.trans e2) rz⟩
theorem r_callB {id : String} {r : List V → Hp → VK → Prop} {Rs : List RV} {x : Str} {p : Pos} (hc : CallR X (.builtin id) r) (hm : X.mg x = none) (hv : bootBuiltins x = some (.builtin id)) (ha : PA X (e :: es) (tRA S σ0 H0 Rs))
    (hr : ∀ vs H, Ex H0 H → Al S H → AllR Rs vs (hid S H) → ∀ Q : VK, (∀ z H2, Ex H H2 → Rz z (hid S H2) → Q z H2) → r vs H Q) (hg : Gl X x := by rfl) (hn : x ≠ "__name__" := by decide) (hdb : (x == ("__debug__" : Str)) = false := by decide)
    (he : starEach (e :: es) X.env = (false, eval e X.env) :: starEach es X.env := by rfl) (hpl : (backTo pos (starEach es X.env)).any (·.1) = false := by rfl) : PE X (.Call (.Name x p) (e :: es) [] pos) (tR S σ0 H0 Rz) :=
  PE_imp (pe_callB hc hg hm hv ha hn hdb he hpl) (tR_cb hr)
theorem r_callTy {T : String} {r : List V → Hp → VK → Prop} {Rs : List RV} {x : Str} {p : Pos} (hc : CallR X (.type T) r) (hm : X.mg x = none) (hv : bootBuiltins x = some (.type T)) (ha : PA X (e :: es) (tRA S σ0 H0 Rs))
    (hr : ∀ vs H, Ex H0 H → Al S H → AllR Rs vs (hid S H) → ∀ Q : VK, (∀ z H2, Ex H H2 → Rz z (hid S H2) → Q z H2) → r vs H Q) (hg : Gl X x := by rfl) (hn : x ≠ "__name__" := by decide) (hdb : (x == ("__debug__" : Str)) = false := by decide)
    (he : starEach (e :: es) X.env = (false, eval e X.env) :: starEach es X.env := by rfl) (hpl : (backTo pos (starEach es X.env)).any (·.1) = false := by rfl) : PE X (.Call (.Name x p) (e :: es) [] pos) (tR S σ0 H0 Rz) :=
  PE_imp (pe_callTy hc hg hm hv ha hn hdb he hpl) (tR_cb hr)
end
end N34

set_option Elab.async false
set_option linter.all false
set_option maxRecDepth 100000
set_option maxHeartbeats 1000000
/-! calls of own defs, built-ins, subscripts, walks, comprehensions, statements -/
namespace N34
open PySem PySem.Spec PyProof.Rows L2

/-! ### own defs -/
/-- a promise: what S hides is left alone; pre tells of the arguments (in what is open) what may be counted on of the result -/
def spF (pre : List V → Hp → RV → Prop) : Sp := fun vs H Q _ => ∃ S R, Al S H ∧ pre vs (hid S H) R ∧ ∀ v H', Ex H H' → R v (hid S H') → Q v H'
structure Cl (P : Program) (w : World) (K : PySem.W.Frag) (mg : Str → Option Value) (base : Heap) (x : Str) (k : Nat) (ps : List Str) (sp : Sp) : Prop where
  ok : ∃ f fd, FnOk P w K mg base CX0 k f fd ps sp ∧ mg x = some (.ref f) ∧ PySem.W.keepIn K (.ref f) = true ∧ Binds K fd ps []
section
variable {X : Cx} {S : List Addr} {σ0 : L2.St} {H0 : Hp} {R Ra Rb Rz : RV} {a b e : Expr} {es : List Expr} {pos : Pos} {d : PyData}
theorem r_call {pre : List V → Hp → RV → Prop} {x : Str} {p : Pos} {k : Nat} {ps : List Str} {Rs : List RV} (C : Cl X.prog X.w X.K X.mg X.base x k ps (spF pre)) (hr : Room k X.A) (ha : PA X (e :: es) (tRA S σ0 H0 Rs))
    (h : ∀ vs F, AllR Rs vs F → pre vs F Rz) (hg : Gl X x := by rfl) (hdb : (x == ("__debug__" : Str)) = false := by decide) (he : starEach (e :: es) X.env = (false, eval e X.env) :: starEach es X.env := by rfl)
    (hpl : (backTo pos (starEach es X.env)).any (·.1) = false := by rfl) : PE X (.Call (.Name x p) (e :: es) [] pos) (tR S σ0 H0 Rz) := by
  obtain ⟨f, fd, F, hm, hk, hb⟩ := C.ok
  refine PE_imp (pe_call F hr hg hm hk hb .nil pass0 ha hdb he hpl) fun σ H Q ⟨es, e, al, k⟩ => ⟨es, e, al, fun vs H1 e1 ra => ?_⟩
  show spF pre (vs ++ []) H1 Q E0
  rw [List.append_nil]
  exact ⟨S, Rz, al.ex e1, h _ _ ra, fun v H' e2 r => k v H' (e1.trans e2) r⟩

/-! ### built-ins -/
theorem r_lenL {ds : List PyData} {p : Pos} (hm : X.mg "len" = none) (ha : PE X a (tR S σ0 H0 (isD (.list ds)))) (hg : Gl X "len" := by rfl) (hs : starEach [a] X.env = (false, eval a X.env) :: starEach [] X.env := by rfl) : PE X (.Call (.Name "len" p) [a] [] pos) (tR S σ0 H0 (isD (.int ds.length))) :=
  r_callB call_len_seq hm boot_len (ra_1 ha hs) (fun vs H _ _ h Q k => by
    obtain ⟨v, ws, rfl, h1, h2⟩ := h
    cases h2
    obtain ⟨a, xs, rfl, h3, h4⟩ := h1.lstI
    refine ⟨a, xs, rfl, .inl (SqL.of (hid_le _ _ h3)), ?_⟩
    rw [h4.length]; exact k _ H (Ex.refl _) (.int _)) hg (he := hs)
theorem r_lenT {ds : List PyData} {p : Pos} (hm : X.mg "len" = none) (ha : PE X a (tR S σ0 H0 (isD (.tuple ds)))) (hg : Gl X "len" := by rfl) (hs : starEach [a] X.env = (false, eval a X.env) :: starEach [] X.env := by rfl) : PE X (.Call (.Name "len" p) [a] [] pos) (tR S σ0 H0 (isD (.int ds.length))) :=
  r_callB call_len_seq hm boot_len (ra_1 ha hs) (fun vs H _ _ h Q k => by
    obtain ⟨v, ws, rfl, h1, h2⟩ := h
    cases h2
    obtain ⟨a, xs, rfl, h3, h4⟩ := h1.tupI
    refine ⟨a, xs, rfl, .inr (SqT.of (hid_le _ _ h3)), ?_⟩
    rw [h4.length]; exact k _ H (Ex.refl _) (.int _)) hg (he := hs)
theorem r_sum {ns : List Int} {p : Pos} (hc : X.calm = true) (hm : X.mg "sum" = none) (ha : PE X a (tR S σ0 H0 (isD (lint ns)))) (hg : Gl X "sum" := by rfl) (hs : starEach [a] X.env = (false, eval a X.env) :: starEach [] X.env := by rfl) : PE X (.Call (.Name "sum" p) [a] [] pos) (tR S σ0 H0 (isD (.int ns.sum))) :=
  r_callB (cr_sum hc) hm (by decide +kernel) (ra_1 ha hs) (fun vs H _ _ h Q k => by
    obtain ⟨v, ws, rfl, h1, h2⟩ := h
    cases h2
    obtain ⟨a, rfl, h3⟩ := h1.lintI
    exact ⟨a, ns, rfl, SqL.of (hid_le _ _ h3), k _ H (Ex.refl _) (.int _)⟩) hg (he := hs)
theorem r_all {bs : List Bool} {p : Pos} (hc : X.calm = true) (hm : X.mg "all" = none) (ha : PE X a (tR S σ0 H0 (isD (.list (bs.map .bool))))) (hg : Gl X "all" := by rfl) (hs : starEach [a] X.env = (false, eval a X.env) :: starEach [] X.env := by rfl) : PE X (.Call (.Name "all" p) [a] [] pos) (tR S σ0 H0 (isD (.bool (bs.all id)))) :=
  r_callB (cr_all hc) hm (by decide +kernel) (ra_1 ha hs) (fun vs H _ _ h Q k => by
    obtain ⟨v, ws, rfl, h1, h2⟩ := h
    cases h2
    obtain ⟨a, xs, rfl, h3, h4⟩ := h1.lstI
    rw [h4.bls] at h3
    exact ⟨a, bs, rfl, SqL.of (hid_le _ _ h3), k _ H (Ex.refl _) (.bl _)⟩) hg (he := hs)
theorem r_any {bs : List Bool} {p : Pos} (hc : X.calm = true) (hm : X.mg "any" = none) (ha : PE X a (tR S σ0 H0 (isD (.list (bs.map .bool))))) (hg : Gl X "any" := by rfl) (hs : starEach [a] X.env = (false, eval a X.env) :: starEach [] X.env := by rfl) : PE X (.Call (.Name "any" p) [a] [] pos) (tR S σ0 H0 (isD (.bool (bs.any id)))) :=
  r_callB (cr_any hc) hm (by decide +kernel) (ra_1 ha hs) (fun vs H _ _ h Q k => by
    obtain ⟨v, ws, rfl, h1, h2⟩ := h
    cases h2
    obtain ⟨a, xs, rfl, h3, h4⟩ := h1.lstI
    rw [h4.bls] at h3
    exact ⟨a, bs, rfl, SqL.of (hid_le _ _ h3), k _ H (Ex.refl _) (.bl _)⟩) hg (he := hs)
/-- tuple(list), list(list), list(tuple) -/
theorem r_tupleL {ds : List PyData} {p : Pos} (hm : X.mg "tuple" = none) (ha : PE X a (tR S σ0 H0 (isD (.list ds)))) (hg : Gl X "tuple" := by rfl) (hs : starEach [a] X.env = (false, eval a X.env) :: starEach [] X.env := by rfl) : PE X (.Call (.Name "tuple" p) [a] [] pos) (tR S σ0 H0 (isD (.tuple ds))) :=
  r_callTy call_tuple_of hm (by decide +kernel) (ra_1 ha hs) (fun vs H _ al h Q k => by
    obtain ⟨v, ws, rfl, h1, h2⟩ := h
    cases h2
    obtain ⟨a, xs, rfl, h3, h4⟩ := h1.lstI
    exact ⟨a, xs, rfl, .inl ⟨SqL.of (hid_le _ _ h3), fun l hl => k _ _ (Ex.new hl) (.tup (hid_new al hl) (h4.mono (hid_ex (Ex.new hl))))⟩⟩) hg (he := hs)
theorem r_tupleT {ds : List PyData} {p : Pos} (hm : X.mg "tuple" = none) (ha : PE X a (tR S σ0 H0 (isD (.tuple ds)))) (hg : Gl X "tuple" := by rfl) (hs : starEach [a] X.env = (false, eval a X.env) :: starEach [] X.env := by rfl) : PE X (.Call (.Name "tuple" p) [a] [] pos) (tR S σ0 H0 (isD (.tuple ds))) :=
  r_callTy call_tuple_of hm (by decide +kernel) (ra_1 ha hs) (fun vs H _ al h Q k => by
    obtain ⟨v, ws, rfl, h1, h2⟩ := h
    cases h2
    obtain ⟨a, xs, rfl, h3, h4⟩ := h1.tupI
    exact ⟨a, xs, rfl, .inr ⟨SqT.of (hid_le _ _ h3), k _ _ (Ex.refl _) (.tup h3 h4)⟩⟩) hg (he := hs)
theorem r_listL {ds : List PyData} {p : Pos} (hm : X.mg "list" = none) (ha : PE X a (tR S σ0 H0 (isD (.list ds)))) (hg : Gl X "list" := by rfl) (hs : starEach [a] X.env = (false, eval a X.env) :: starEach [] X.env := by rfl) : PE X (.Call (.Name "list" p) [a] [] pos) (tR S σ0 H0 (isD (.list ds))) :=
  r_callTy call_list_of hm (by decide +kernel) (ra_1 ha hs) (fun vs H _ al h Q k => by
    obtain ⟨v, ws, rfl, h1, h2⟩ := h
    cases h2
    obtain ⟨a, xs, rfl, h3, h4⟩ := h1.lstI
    exact ⟨a, xs, rfl, .inl (SqL.of (hid_le _ _ h3)), fun l hl => k _ _ (Ex.new hl) (.lst (hid_new al hl) (h4.mono (hid_ex (Ex.new hl))))⟩) hg (he := hs)
theorem r_listT {ds : List PyData} {p : Pos} (hm : X.mg "list" = none) (ha : PE X a (tR S σ0 H0 (isD (.tuple ds)))) (hg : Gl X "list" := by rfl) (hs : starEach [a] X.env = (false, eval a X.env) :: starEach [] X.env := by rfl) : PE X (.Call (.Name "list" p) [a] [] pos) (tR S σ0 H0 (isD (.list ds))) :=
  r_callTy call_list_of hm (by decide +kernel) (ra_1 ha hs) (fun vs H _ al h Q k => by
    obtain ⟨v, ws, rfl, h1, h2⟩ := h
    cases h2
    obtain ⟨a, xs, rfl, h3, h4⟩ := h1.tupI
    exact ⟨a, xs, rfl, .inr (SqT.of (hid_le _ _ h3)), fun l hl => k _ _ (Ex.new hl) (.lst (hid_new al hl) (h4.mono (hid_ex (Ex.new hl))))⟩) hg (he := hs)

/-! ### subscripts, slices -/
theorem tR_ix {r : R2} (hm : Mono Ra) (hr : ∀ x y H, Ex H0 H → Al S H → Ra x (hid S H) → Rb y (hid S H) → ∀ Q : VK, (∀ z H2, Ex H H2 → Rz z (hid S H2) → Q z H2) → r x y H Q) (hi : IxR X r) (ha : PE X a (tR S σ0 H0 Ra)) (hb : PE X b (tR S σ0 H0 Rb)) (hs : PlainIx b) :
    PE X (.Subscript a b pos) (tR S σ0 H0 Rz) := PE_imp (pe_ix hi ha hb hs) (tR_op hm hr)
theorem r_ixL {ds : List PyData} {i : Int} (ha : PE X a (tR S σ0 H0 (isD (.list ds)))) (hb : PE X b (tR S σ0 H0 (isD (.int i)))) (h : atI ds i = some d) (hs : PlainIx b := by exact fun _ _ => rfl) : PE X (.Subscript a b pos) (tR S σ0 H0 (isD d)) :=
  tR_ix (isD_mono _) (fun x y H _ al hx hy Q k => by
    obtain ⟨p, xs, rfl, h3, h4⟩ := hx.lstI
    unfold atI at h
    cases q : ixN ds.length i with
    | none => rw [q] at h; cases h
    | some j =>
      rw [q] at h
      obtain ⟨v, hv, hd⟩ := h4.get (show ds[j]? = some d from h)
      exact ⟨p, xs, i, v, rfl, hy.intI, SqL.of (hid_le _ _ h3), by unfold atI; rw [h4.length, q]; exact hv, k _ _ (Ex.refl _) hd⟩) ix_list ha hb hs
theorem r_ixT {ds : List PyData} {i : Int} (ha : PE X a (tR S σ0 H0 (isD (.tuple ds)))) (hb : PE X b (tR S σ0 H0 (isD (.int i)))) (h : atI ds i = some d) (hs : PlainIx b := by exact fun _ _ => rfl) : PE X (.Subscript a b pos) (tR S σ0 H0 (isD d)) :=
  tR_ix (isD_mono _) (fun x y H _ al hx hy Q k => by
    obtain ⟨p, xs, rfl, h3, h4⟩ := hx.tupI
    unfold atI at h
    cases q : ixN ds.length i with
    | none => rw [q] at h; cases h
    | some j =>
      rw [q] at h
      obtain ⟨v, hv, hd⟩ := h4.get (show ds[j]? = some d from h)
      exact ⟨p, xs, i, v, rfl, hy.intI, SqT.of (hid_le _ _ h3), by unfold atI; rw [h4.length, q]; exact hv, k _ _ (Ex.refl _) hd⟩) ix_tup ha hb hs

/-! ### lists and tuples put together -/
theorem DtA.nil_iff {H : Hp} {vs : List V} {ds : List PyData} (h : DtA H vs ds) : vs = [] ↔ ds = [] := by
  cases h <;> simp
theorem r_catT {ds es : List PyData} (ha : PE X a (tR S σ0 H0 (isD (.tuple ds)))) (hb : PE X b (tR S σ0 H0 (isD (.tuple es)))) (hl : ds.length + es.length ≤ 100000) : PE X (.BinOp a .Add b pos) (tR S σ0 H0 (isD (.tuple (ds ++ es)))) :=
  r_op op_catA ha hb (isD_mono _) fun x y H _ al hx hy Q k => by
    obtain ⟨p, xs, rfl, h3, h4⟩ := hx.tupI
    obtain ⟨q, ys, rfl, h5, h6⟩ := hy.tupI
    refine ⟨p, q, xs, ys, rfl, rfl, SqT.of (hid_le _ _ h3), SqT.of (hid_le _ _ h5), sz (by rw [h4.length, h6.length]; exact hl), fun e => ?_, fun e1 e2 => ?_, fun _ _ l hl => ?_⟩
    · have e' := h4.nil_iff.mp e
      subst e'
      exact k _ _ (Ex.refl _) (.tup h5 h6)
    · have e' := h6.nil_iff.mp e2
      subst e'
      rw [List.append_nil] at k
      exact k _ _ (Ex.refl _) (.tup h3 h4)
    · exact k _ _ (Ex.new hl) (.tup (hid_new al hl) ((h4.append h6).mono (hid_ex (Ex.new hl))))
theorem r_catL {ds es : List PyData} (ha : PE X a (tR S σ0 H0 (isD (.list ds)))) (hb : PE X b (tR S σ0 H0 (isD (.list es)))) (hl : ds.length + es.length ≤ 100000) : PE X (.BinOp a .Add b pos) (tR S σ0 H0 (isD (.list (ds ++ es)))) :=
  r_op op_cat ha hb (isD_mono _) fun x y H _ al hx hy Q k => by
    obtain ⟨p, xs, rfl, h3, h4⟩ := hx.lstI
    obtain ⟨q, ys, rfl, h5, h6⟩ := hy.lstI
    refine ⟨p, q, xs, ys, rfl, rfl, hid_le _ _ h3, hid_le _ _ h5, sz (by rw [h4.length, h6.length]; exact hl), fun l hl => ?_⟩
    exact k _ _ (Ex.new hl) (.lst (hid_new al hl) ((h4.append h6).mono (hid_ex (Ex.new hl))))

/-! ### attributes -/
/-- the attribute f of an instance of the class at C holds what R says -/
theorem r_fld {C : Addr} {f : Str} {fs : List (Str × V)} {v : V} (ha : PE X e (tR S σ0 H0 (fun v H => ∃ a dx, v = .ref a ∧ H a = some (.ins C dx fs) ∧ R (fs.lookup f |>.getD .non) H))) (c : Cls X.K C) (n : NoAttr X.K C f) (hf : fs.lookup f = some v)
    (hb : attributeBase e f X.env (eval e X.env) = eval e X.env := by rfl) : PE X (.Attribute e f pos) (tR S σ0 H0 R) :=
  PE_imp (pe_fld ha hb) fun σ H Q ⟨q, ex, al, k⟩ => ⟨q, ex, al, fun x H1 e1 ⟨a, dx, ea, h1, h2⟩ => ⟨a, C, dx, fs, v, ea, hid_le _ _ h1, c, n, hf, k _ _ e1 (by rw [hf] at h2; exact h2)⟩⟩
end

/-! ### walks -/
section
variable {X : Cx} {S : List Addr} {σ0 : L2.St} {H0 : Hp} {a b e tg : Expr} {pos : Pos} {α β : Type}
theorem Ex.hidd {H1 : Hp} {S S' : List Addr} {H : Hp} {p : Addr} {o : HO} (e : Ex (hid S H1) (hid S' H)) (h : hid S H1 p = some o) : H p = some o := hid_le _ _ (e _ _ h)
theorem w_list {xs : List α} {enc : α → PyData} (h : PE X e (tR S σ0 H0 (isD (.list (xs.map enc))))) : PI X tg e (tW S σ0 H0 xs fun x => isD (enc x)) :=
  PI_imp (pi_list h) fun σ H Q ⟨q, ex, al, k⟩ => ⟨q, ex, al, fun v H1 e1 r => by
    obtain ⟨p, vs, rfl, h3, h4⟩ := r.lstI
    have hl : vs.length = xs.length := by rw [h4.length, List.length_map]
    have h0 : ∀ S' H, Ex (hid S H1) (hid S' H) → SqL X.K H p vs := fun S' H e => SqL.of (e.hidd h3)
    refine ⟨p, rfl, ⟨vs, SqL.of (hid_le _ _ h3)⟩, k _ _ e1 ⟨fun i S' H hi e _ => ⟨vs, vs[i]'(by rw [hl]; exact hi), h0 S' H e, by simp [hl, hi]⟩, fun S' H e _ => ⟨vs, h0 S' H e, by rw [hl]; exact Nat.le_refl _⟩, fun i a S' H x H' hi e _ y => ?_⟩⟩
    obtain ⟨y1, y2⟩ := y
    rw [y1]
    obtain ⟨v, hv, hd⟩ := h4.get (i := i) (d := enc a) (by rw [List.getElem?_map, hi]; rfl)
    have := y2 vs (h0 S' H e)
    rw [hv] at this
    cases this
    exact ⟨Ex.refl _, hd.mono e⟩⟩
theorem w_tup {xs : List α} {enc : α → PyData} (h : PE X e (tR S σ0 H0 (isD (.tuple (xs.map enc))))) : PI X tg e (tW S σ0 H0 xs fun x => isD (enc x)) :=
  PI_imp (pi_tup h) fun σ H Q ⟨q, ex, al, k⟩ => ⟨q, ex, al, fun v H1 e1 r => by
    obtain ⟨p, vs, rfl, h3, h4⟩ := r.tupI
    have hl : vs.length = xs.length := by rw [h4.length, List.length_map]
    have h0 : ∀ S' H, Ex (hid S H1) (hid S' H) → SqT X.K H p vs := fun S' H e => SqT.of (e.hidd h3)
    refine ⟨p, rfl, ⟨vs, SqT.of (hid_le _ _ h3)⟩, k _ _ e1 ⟨fun i S' H hi e _ => ⟨vs, vs[i]'(by rw [hl]; exact hi), h0 S' H e, by simp [hl, hi]⟩, fun S' H e _ => ⟨vs, h0 S' H e, by rw [hl]; exact Nat.le_refl _⟩, fun i a S' H x H' hi e _ y => ?_⟩⟩
    obtain ⟨y1, y2⟩ := y
    rw [y1]
    obtain ⟨v, hv, hd⟩ := h4.get (i := i) (d := enc a) (by rw [List.getElem?_map, hi]; rfl)
    have := y2 vs (h0 S' H e)
    rw [hv] at this
    cases this
    exact ⟨Ex.refl _, hd.mono e⟩⟩
theorem w_range {n : Int} {p : Pos} (hm : X.mg "range" = none) (h : PE X e (tR S σ0 H0 (isD (.int n)))) (h1 : -(2 ^ 62) ≤ n) (h2 : n < 2 ^ 62) (hg : Gl X "range" := by rfl) (hs : starEach [e] X.env = [(false, eval e X.env)] := by rfl) :
    PI X tg (.Call (.Name "range" p) [e] [] pos) (tW S σ0 H0 (List.range n.toNat) fun k => isD (.int (k : Nat))) :=
  PI_imp (pi_range1 hg hm (ra_1 h hs) hs) fun σ H Q ⟨q, ex, al, k⟩ => ⟨q, ex, al, fun vs H1 e1 r => by
    obtain ⟨v, ws, rfl, r1, r2⟩ := r
    cases r2
    rw [r1.intI]
    refine ⟨n, rfl, h1, h2, k _ _ e1 ⟨fun i S' H hi e _ => by show i < n.toNat; rw [List.length_range] at hi; exact hi, fun S' H e _ => by show n.toNat ≤ _; simp, fun i a S' H x H' hi e _ y => ?_⟩⟩
    obtain ⟨y1, y2⟩ := y
    rw [y1, y2]
    have hi' : i = a := by
      have := List.getElem?_eq_some_iff.mp hi
      obtain ⟨z1, z2⟩ := this
      simpa using z2
    subst hi'
    exact ⟨Ex.refl _, by rw [Int.zero_add]; exact .int _⟩⟩
theorem w_range2 {m n : Int} {p : Pos} (hm : X.mg "range" = none) (ha : PE X a (tR S σ0 H0 (isD (.int m)))) (h : PE X e (tR S σ0 H0 (isD (.int n)))) (h1 : -(2 ^ 62) ≤ m ∧ m < 2 ^ 62 ∧ -(2 ^ 62) ≤ n ∧ n < 2 ^ 62) (hg : Gl X "range" := by rfl)
    (hs : starEach [a, e] X.env = [(false, eval a X.env), (false, eval e X.env)] := by rfl) (hs2 : starEach [e] X.env = [(false, eval e X.env)] := by rfl) :
    PI X tg (.Call (.Name "range" p) [a, e] [] pos) (tW S σ0 H0 (List.range (n - m).toNat) fun k => isD (.int (m + (k : Nat)))) :=
  PI_imp (pi_range2 hg hm (ra_D ha (ra_1 h hs2) (by rw [hs, hs2])) hs hs2) fun σ H Q ⟨q, ex, al, k⟩ => ⟨q, ex, al, fun vs H1 e1 r => by
    obtain ⟨u, us, rfl, r0, v, ws, rfl, r1, r2⟩ := r
    cases r2
    rw [r0.intI, r1.intI]
    refine ⟨m, n, rfl, h1, k _ _ e1 ⟨fun i S' H hi e _ => by show i < (n - m).toNat; rw [List.length_range] at hi; exact hi, fun S' H e _ => by show (n - m).toNat ≤ _; simp, fun i a S' H x H' hi e _ y => ?_⟩⟩
    obtain ⟨y1, y2⟩ := y
    rw [y1, y2]
    have hi' : i = a := by
      obtain ⟨z1, z2⟩ := List.getElem?_eq_some_iff.mp hi
      simpa using z2
    subst hi'
    exact ⟨Ex.refl _, .int _⟩⟩
/-- a new pair of the i-th of two -/
def pairR (Ra Rb : RV) : RV := fun v H => ∃ t x y, v = .ref t ∧ H t = some (.tup [x, y]) ∧ Ra x H ∧ Rb y H
theorem w_zipT {xs : List α} {ys : List β} {ea : α → PyData} {eb : β → PyData} {p tpos : Pos} {elts : List Expr} {kk : Nat} (hm : X.mg "zip" = none) (ha : PE X a (tR S σ0 H0 (isD (.tuple (xs.map ea))))) (hb : PE X b (tR S σ0 H0 (isD (.tuple (ys.map eb)))))
    (hg : Gl X "zip" := by rfl) (hs : starEach [a, b] X.env = (false, eval a X.env) :: starEach [b] X.env := by rfl) (hs2 : starEach [b] X.env = (false, eval b X.env) :: starEach [] X.env := by rfl) (hpl : (backTo pos (starEach [b] X.env)).any (·.1) = false := by rfl) :
    PI X (.Tuple elts kk tpos) (.Call (.Name "zip" p) [a, b] [] pos) (tW S σ0 H0 (xs.zip ys) fun q => pairR (isD (ea q.1)) (isD (eb q.2))) :=
  PI_imp (RZ.pi_zipA hg hm (ra_D ha (ra_1 hb hs2) hs) hs hpl) fun σ H Q ⟨q, ex, al, k⟩ => ⟨q, ex, al, fun vs H1 e1 r => by
    obtain ⟨u, us, rfl, r0, v, ws, rfl, r1, r2⟩ := r
    cases r2
    obtain ⟨p, vs, rfl, h3, h4⟩ := r0.tupI
    obtain ⟨p2, vs2, rfl, h5, h6⟩ := r1.tupI
    have hl : vs.length = xs.length := by rw [h4.length, List.length_map]
    have hl2 : vs2.length = ys.length := by rw [h6.length, List.length_map]
    have g1 : ∀ S' H, Ex (hid S H1) (hid S' H) → SqT X.K H p vs := fun S' H e => SqT.of (e.hidd h3)
    have g2 : ∀ S' H, Ex (hid S H1) (hid S' H) → SqT X.K H p2 vs2 := fun S' H e => SqT.of (e.hidd h5)
    refine ⟨p, p2, vs, vs2, rfl, .inr ⟨SqT.of (hid_le _ _ h3), SqT.of (hid_le _ _ h5), k _ _ e1 ⟨fun i S' H hi e _ => ?_, fun S' H e _ => ?_, fun i z S' H x H' hi e al' y => ?_⟩⟩⟩
    · rw [List.length_zip] at hi
      have i1 : i < vs.length := by omega
      have i2 : i < vs2.length := by omega
      exact ⟨vs, vs2, vs[i], vs2[i], g1 S' H e, g2 S' H e, by simp [i1], by simp [i2]⟩
    · refine ⟨vs, vs2, g1 S' H e, g2 S' H e, ?_⟩
      rw [List.length_zip]; omega
    · obtain ⟨T, x1, y1, rfl, n1, rfl, k1, k2⟩ := y
      have q1 := k1 vs (g1 S' H e)
      have q2 := k2 vs2 (g2 S' H e)
      rw [List.getElem?_zip_eq_some] at hi
      obtain ⟨v1, j1, d1⟩ := h4.get (i := i) (d := ea z.1) (by rw [List.getElem?_map, hi.1]; rfl)
      obtain ⟨v2, j2, d2⟩ := h6.get (i := i) (d := eb z.2) (by rw [List.getElem?_map, hi.2]; rfl)
      rw [q1] at j1; rw [q2] at j2
      cases j1; cases j2
      exact ⟨Ex.new n1, T, x1, y1, rfl, hid_new al' n1, (d1.mono e).mono (hid_ex (Ex.new n1)), (d2.mono e).mono (hid_ex (Ex.new n1))⟩⟩
theorem w_enumL {xs : List α} {ea : α → PyData} {p tpos : Pos} {elts : List Expr} {kk : Nat} (hm : X.mg "enumerate" = none) (ha : PE X a (tR S σ0 H0 (isD (.list (xs.map ea)))))
    (hg : Gl X "enumerate" := by rfl) (hs : starEach [a] X.env = [(false, eval a X.env)] := by rfl) :
    PI X (.Tuple elts kk tpos) (.Call (.Name "enumerate" p) [a] [] pos) (tW S σ0 H0 xs.zipIdx fun q => pairR (isD (.int (q.2 : Nat))) (isD (ea q.1))) :=
  PI_imp (pi_enum hg hm (ra_1 ha hs) hs) fun σ H Q ⟨q, ex, al, k⟩ => ⟨q, ex, al, fun vs H1 e1 r => by
    obtain ⟨u, us, rfl, r0, r2⟩ := r
    cases r2
    obtain ⟨p, vs, rfl, h3, h4⟩ := r0.lstI
    have hl : vs.length = xs.length := by rw [h4.length, List.length_map]
    have g1 : ∀ S' H, Ex (hid S H1) (hid S' H) → SqL X.K H p vs := fun S' H e => SqL.of (e.hidd h3)
    refine ⟨p, vs, rfl, SqL.of (hid_le _ _ h3), k _ _ e1 ⟨fun i S' H hi e _ => ?_, fun S' H e _ => ?_, fun i z S' H x H' hi e al' y => ?_⟩⟩
    · rw [List.length_zipIdx] at hi
      exact ⟨vs, vs[i]'(by omega), g1 S' H e, by simp [hl, hi]⟩
    · exact ⟨vs, g1 S' H e, by rw [List.length_zipIdx]; omega⟩
    · obtain ⟨T, x1, rfl, n1, rfl, k1⟩ := y
      have q1 := k1 vs (g1 S' H e)
      rw [List.getElem?_zipIdx] at hi
      cases c : xs[i]? with
      | none => rw [c] at hi; cases hi
      | some w =>
        rw [c] at hi
        have hz : (w, 0 + i) = z := Option.some.inj hi
        obtain ⟨v1, j1, d1⟩ := h4.get (i := i) (d := ea w) (by rw [List.getElem?_map, c]; rfl)
        rw [q1] at j1
        cases j1
        subst hz
        exact ⟨Ex.new n1, T, _, x1, rfl, hid_new al' n1, by rw [Nat.zero_add]; exact .int _, (d1.mono e).mono (hid_ex (Ex.new n1))⟩⟩
end
end N34

set_option Elab.async false
set_option linter.all false
set_option maxRecDepth 100000
set_option maxHeartbeats 1000000
/-! comprehensions, statements -/
namespace N34
open PySem PySem.Spec PyProof.Rows L2

/-! ### comprehensions -/
section
variable {X : Cx} {S : List Addr} {σ0 : L2.St} {H0 : Hp} {R Ra Rb Rz : RV} {elt tg iter e : Expr} {ifs : List Expr} {pos : Pos} {d : PyData} {α β : Type} {scope : Scope}
/-- any element, any tests, whatever the block's start -/
abbrev Blk (X : Cx) (scope : Scope) (P : Cx → Prop) : Prop := ∀ (s : Shared) (H : Hp) (C : Addr) (cl : List (Str × Addr)) (fp : List Addr), P (X.blk s H scope (compEnvC scope cl C X.env) fp)
def teB (X : Cx) (scope : Scope) (e : Expr) : TE := fun σ H Q => Blk X scope fun Y => ∀ pins s, Inv Y pins σ H s → wpAny (model Y.prog Y.w) Y.A (eval e Y.env) (EP Y pins σ Q) Y.xe s
def ttB (X : Cx) (scope : Scope) (ifs : List Expr) : TT := fun σ H Q => Blk X scope fun Y => ∀ pins s, Inv Y pins σ H s → wpAny (model Y.prog Y.w) Y.A (forIn ifs true fun c r => if r = true then do let ok ← isTrue c Y.env (eval c Y.env); pure (ForInStep.yield ok) else pure (ForInStep.yield r)) (TP Y pins σ Q) Y.xe s
theorem pe_teB : ∀ (s : Shared) (H : Hp) (C : Addr) (cl : List (Str × Addr)) (fp : List Addr), PE (X.blk s H scope (compEnvC scope cl C X.env) fp) e (teB X scope e) := fun s H C cl fp => ⟨fun pins s' σ H' Q I h => h s H C cl fp pins s' I⟩
theorem pts_ttB : ∀ (s : Shared) (H : Hp) (C : Addr) (cl : List (Str × Addr)) (fp : List Addr), PTs (X.blk s H scope (compEnvC scope cl C X.env) fp) ifs (ttB X scope ifs) := fun s H C cl fp => ⟨fun pins s' σ H' Q I h => h s H C cl fp pins s' I⟩
theorem teB_of {S' : List Addr} {σ' : L2.St} {H : Hp} {Q : VK} (h : Blk X scope fun Y => PE Y e (tR S' σ' H R)) (al : Al S' H) (k : ∀ v H2, Ex H H2 → R v (hid S' H2) → Q v H2) : teB X scope e σ' H Q := fun s H1 C cl fp pins s' I => (h s H1 C cl fp).run pins s' σ' H Q I ⟨rfl, Ex.refl _, al, k⟩
theorem ttB_of {S' : List Addr} {σ' : L2.St} {H : Hp} {b : Bool} {Q : Bool → Hp → Prop} (h : Blk X scope fun Y => PTs Y ifs (tRT S' σ' H b)) (al : Al S' H) (k : ∀ H2, Ex H H2 → Q b H2) : ttB X scope ifs σ' H Q := fun s H1 C cl fp pins s' I => (h s H1 C cl fp).run pins s' σ' H Q I ⟨rfl, Ex.refl _, al, k⟩
theorem b_nil {S' : List Addr} {σ' : L2.St} {H : Hp} : Blk X scope fun Y => PTs Y [] (tRT S' σ' H true) := fun _ _ _ _ _ => PTs_imp pts_nil fun _ H _ ⟨_, _, _, k⟩ => k H (Ex.refl _)
theorem b_one {S' : List Addr} {σ' : L2.St} {H : Hp} {b : Bool} {c : Expr} (h : Blk X scope fun Y => PT Y c (tRT S' σ' H b)) : Blk X scope fun Y => PTs Y [c] (tRT S' σ' H b) := fun s H C cl fp => pts_one (h s H C cl fp)
/-- one item: the target's store, the tests, the element -/
structure Item (X : Cx) (scope : Scope) (elt : Expr) (ifs : List Expr) (g : TG) (vs : List Nat) (σw : L2.St) (S' : List Addr) (H : Hp) (v : V) (b : Bool) (d : PyData) : Prop where
  ex : ∃ σ', wipe σ' vs = σw ∧ (∀ Q : L2.St → Hp → Prop, Q σ' H → g v σw H Q) ∧ (Blk X scope fun Y => PTs Y ifs (tRT S' σ' H b)) ∧ (b = true → Blk X scope fun Y => PE Y elt (tR S' σ' H (isD d)))
theorem Item.name {j : Nat} {vs : List Nat} {σw : L2.St} {S' : List Addr} {H : Hp} {v : V} {b : Bool} (hw : wipe (σw.set j (some v)) vs = σw) (ht : Blk X scope fun Y => PTs Y ifs (tRT S' (σw.set j (some v)) H b)) (he : b = true → Blk X scope fun Y => PE Y elt (tR S' (σw.set j (some v)) H (isD d))) :
    Item X scope elt ifs (gName j) vs σw S' H v b d := ⟨_, hw, fun _ q => q, ht, he⟩
theorem Item.pair {i j : Nat} {vs : List Nat} {σw : L2.St} {S' : List Addr} {H : Hp} {v : V} {b : Bool} (hv : pairR Ra Rb v (hid S' H)) (hw : ∀ x y, wipe ((σw.set i (some x)).set j (some y)) vs = σw)
    (h : ∀ x y, Ra x (hid S' H) → Rb y (hid S' H) → (Blk X scope fun Y => PTs Y ifs (tRT S' ((σw.set i (some x)).set j (some y)) H b)) ∧ (b = true → Blk X scope fun Y => PE Y elt (tR S' ((σw.set i (some x)).set j (some y)) H (isD d)))) :
    Item X scope elt ifs (gTup X.K 2 (gCons (gName i) (gCons (gName j) gNil))) vs σw S' H v b d := by
  obtain ⟨t, x, y, rfl, ht, ra, rb⟩ := hv
  exact ⟨_, hw x y, fun Q q => ⟨t, [x, y], rfl, SqT.of (hid_le _ _ ht), rfl, x, [y], rfl, y, [], rfl, rfl, q⟩, (h x y ra rb).1, (h x y ra rb).2⟩
def tripR (Ra Rb Rc : RV) : RV := fun v H => ∃ t x y z, v = .ref t ∧ H t = some (.tup [x, y, z]) ∧ Ra x H ∧ Rb y H ∧ Rc z H
theorem Item.trip {Rc : RV} {i j l : Nat} {vs : List Nat} {σw : L2.St} {S' : List Addr} {H : Hp} {v : V} {b : Bool} (hv : tripR Ra Rb Rc v (hid S' H)) (hw : ∀ x y z, wipe (((σw.set i (some x)).set j (some y)).set l (some z)) vs = σw)
    (h : ∀ x y z, Ra x (hid S' H) → Rb y (hid S' H) → Rc z (hid S' H) → (Blk X scope fun Y => PTs Y ifs (tRT S' (((σw.set i (some x)).set j (some y)).set l (some z)) H b)) ∧ (b = true → Blk X scope fun Y => PE Y elt (tR S' (((σw.set i (some x)).set j (some y)).set l (some z)) H (isD d)))) :
    Item X scope elt ifs (gTup X.K 3 (gCons (gName i) (gCons (gName j) (gCons (gName l) gNil)))) vs σw S' H v b d := by
  obtain ⟨t, x, y, z, rfl, ht, ra, rb, rc⟩ := hv
  exact ⟨_, hw x y z, fun Q q => ⟨t, [x, y, z], rfl, SqT.of (hid_le _ _ ht), rfl, x, [y, z], rfl, y, [z], rfl, z, [], rfl, rfl, q⟩, (h x y z ra rb rc).1, (h x y z ra rb rc).2⟩
theorem take_succ {α : Type} {xs : List α} {i : Nat} {a : α} (h : xs[i]? = some a) : xs.take (i + 1) = xs.take i ++ [a] := by
  obtain ⟨h1, h2⟩ := List.getElem?_eq_some_iff.mp h
  rw [← h2, List.take_append_getElem h1]
/-- a later heap in which more may be hidden -/
structure Up (S : List Addr) (H : Hp) (S' : List Addr) (H' : Hp) : Prop where
  ex : Ex H H'
  sub : ∀ b ∈ S, b ∈ S'
  new : ∀ b ∈ S', b ∈ S ∨ H b = none
  al : Al S' H'
theorem Up.hid {S S' : List Addr} {H H' : Hp} (u : Up S H S' H') : Ex (hid S H) (hid S' H') := fun a o h => by
  obtain ⟨h1, h2⟩ := hid_some h
  rw [hid_out (fun z => (u.new a z).elim h1 fun q => by rw [q] at h2; cases h2)]
  exact u.ex _ _ h2
theorem Up.of {S : List Addr} {H H' : Hp} (e : Ex H H') (al : Al S H') : Up S H S H' := ⟨e, fun _ h => h, fun _ h => .inl h, al⟩
/-- the reading of a comprehension -/
structure WkE {α : Type} (J : It) (S : List Addr) (H1 : Hp) (xs : List α) (enc : α → RV) : Prop where
  goes : ∀ i S' H, i < xs.length → Ex H1 H → Ex (hid S H1) (hid S' H) → Al S' H → J.go i H
  stops : ∀ S' H, Ex H1 H → Ex (hid S H1) (hid S' H) → Al S' H → J.stop xs.length H
  yields : ∀ i a S' H x H', xs[i]? = some a → Ex H1 H → Ex (hid S H1) (hid S' H) → Al S' H → J.yld i H x H' → Ex H H' ∧ enc a x (hid S' H')
def tWE {α : Type} (S : List Addr) (σ0 : L2.St) (H0 : Hp) (xs : List α) (enc : α → RV) : TI := fun σ H R => σ = σ0 ∧ Ex H0 H ∧ Al S H ∧ ∀ J H1, Ex H H1 → WkE J S H1 xs enc → R J H1
theorem w_E {xs : List α} {enc : α → RV} (h : PI X tg iter (tW S σ0 H0 xs enc)) : PI X tg iter (tWE S σ0 H0 xs enc) :=
  PI_imp h fun σ H Q ⟨q, ex, al, k⟩ => ⟨q, ex, al, fun J H1 e1 W => k J H1 e1 ⟨fun i S' H hi _ => W.goes i S' H hi, fun S' H _ => W.stops S' H, fun i a S' H x H' hi _ => W.yields i a S' H x H' hi⟩⟩
theorem lc_R {xs : List α} {enc : α → RV} {g : TG} {vs : List Nat} {p : α → Bool} {f : α → PyData} {wi : TI} (hwi : wi = tWE S σ0 H0 xs enc) (hl : xs.length ≤ 100000)
    (h : ∀ a ∈ xs, ∀ S' H v, Up S H0 S' H → enc a v (hid S' H) → Item X scope elt ifs g vs (wipe σ0 vs) S' H v (p a) (f a)) (σ : L2.St) (H : Hp) (Q : VK)
    (hq : tR S σ0 H0 (isD (.list ((xs.filter p).map f))) σ H Q) : tLc wi g (ttB X scope ifs) (teB X scope elt) vs σ H Q := by
  subst hwi
  obtain ⟨es, ex, al, k⟩ := hq
  subst es
  refine ⟨rfl, ex, al, fun J H1 e1 W => fun D hD => ?_⟩
  have aD : D ∉ S := (al.ex e1).out hD
  refine ⟨fun m n Hm => n = xs.length - m ∧ m ≤ xs.length ∧ Ex H1 Hm ∧ Al S Hm ∧ ∃ acc, Hm D = some (.lst acc) ∧ DtA (hid (D :: S) Hm) acc (((xs.take m).filter p).map f), ⟨xs.length, by simp, Nat.zero_le _, Ex.new hD, Al.upd (al.ex e1) .lst, [], upd_same, by simp; exact .nil⟩, ?_⟩
  rintro m n Hm ⟨rfl, hm, eH, alm, acc, hacc, dacc⟩
  have alD : Al (D :: S) Hm := alm.cons hacc .lst
  have eF : Ex (hid S H1) (hid (D :: S) Hm) := hid_cons eH hD
  have hlen : acc.length ≤ 100000 := by
    rw [dacc.length, List.length_map]
    refine Nat.le_trans (List.length_filter_le _ _) ?_
    rw [List.length_take]; omega
  by_cases hlt : m < xs.length
  · refine .inr ⟨W.goes m _ _ hlt eH eF alD, fun Hx => m + 1 ≤ xs.length ∧ Ex H1 Hx ∧ Al S Hx ∧ ∃ acc, Hx D = some (.lst acc) ∧ DtA (hid (D :: S) Hx) acc (((xs.take (m + 1)).filter p).map f), fun H' ⟨a, b, c, dd⟩ => ⟨xs.length - (m + 1), by omega, rfl, a, b, c, dd⟩, fun x H' y => ?_⟩
    have hget : xs[m]? = some xs[m] := by simp [hlt]
    obtain ⟨e2, en⟩ := W.yields m xs[m] (D :: S) Hm x H' hget eH eF alD y
    have u3 : Up S H0 (D :: S) H' := ⟨((ex.trans e1).trans eH).trans e2, fun b hb => List.mem_cons_of_mem _ hb, fun b hb => (List.mem_cons.mp hb).elim (fun z => .inr (by rw [z]; exact (ex.trans e1).free hD)) .inl, alD.ex e2⟩
    obtain ⟨σ', w1, gs, ht, he⟩ := (h xs[m] (List.getElem_mem hlt) (D :: S) H' x u3 en).ex
    refine gs _ ⟨w1, ttB_of ht (alD.ex e2) fun H3 e4 => ?_⟩
    have tk := take_succ hget
    have d3 : DtA (hid (D :: S) H3) acc (((xs.take m).filter p).map f) := (dacc.mono (hid_ex e2)).mono (hid_ex e4)
    have a3 : H3 D = some (.lst acc) := e4 _ _ (e2 _ _ hacc)
    cases hp : p xs[m] with
    | true =>
      rw [if_pos rfl]
      rw [hp] at he
      refine teB_of ((fun s H C cl fp => PE_mono e4 (he rfl s H C cl fp))) ((alD.ex e2).ex e4) fun y H4 e5 dy => ?_
      refine ⟨acc, e5 _ _ a3, szlt (by
        have : acc.length = (((xs.take m).filter p).map f).length := dacc.length
        rw [List.length_map] at this
        have z := List.length_filter_le p (xs.take m)
        rw [List.length_take] at z; omega), hlt, ((eH.trans e2).trans (e4.trans e5)).mut hD, Al.upd ((alm.ex e2).ex (e4.trans e5)) .lst, acc ++ [y], upd_same, ?_⟩
      rw [hid_upd List.mem_cons_self, tk, List.filter_append, List.map_append]
      have q1 : ([xs[m]] : List α).filter p = [xs[m]] := by simp [hp]
      rw [q1]
      exact (d3.mono (hid_ex e5)).append (.cons dy .nil)
    | false =>
      rw [if_neg Bool.false_ne_true]
      refine ⟨hlt, (eH.trans e2).trans e4, (alm.ex e2).ex e4, acc, a3, ?_⟩
      rw [tk, List.filter_append]
      have q1 : ([xs[m]] : List α).filter p = [] := by simp [hp]
      rw [q1, List.append_nil]
      exact d3
  · have em : m = xs.length := by omega
    subst em
    refine .inl ⟨W.stops _ _ eH eF alD, k _ _ (e1.trans eH) ?_⟩
    rw [List.take_length] at dacc
    exact .lst (by rw [hid_out aD]; exact hacc) (dacc.mono hid_tl)
theorem r_lcE {xs : List α} {enc : α → RV} {g : TG} {own : List (Str × Nat)} {p : α → Bool} {f : α → β} (en : β → PyData) (hc : X.calm = true) (hN : X.N.Nodup) (hi : PI X tg iter (tWE S σ0 H0 xs enc)) (ok : BlkOk X.N X.env.scope scope own)
    (hg : Blk X scope fun Y => PG Y tg g) (hl : xs.length ≤ 100000)
    (h : ∀ a ∈ xs, ∀ S' H v, Up S H0 S' H → enc a v (hid S' H) → Item X scope elt ifs g (own.map (·.2)) (wipe σ0 (own.map (·.2))) S' H v (p a) (en (f a))) (hs : ∀ x, foldedSetIterable iter X.env x = pure x := by intro _; rfl) :
    PE X (.ListComp elt [⟨tg, iter, ifs, 0⟩] scope pos) (tR S σ0 H0 (isD (.list (((xs.filter p).map f).map en)))) := by
  rw [List.map_map]
  exact PE_imp (pe_lc hc hN hi ok hg pts_ttB pe_teB hs) (lc_R (f := en ∘ f) rfl hl h)
theorem r_lc {xs : List α} {enc : α → RV} {g : TG} {own : List (Str × Nat)} {p : α → Bool} {f : α → β} (en : β → PyData) (hc : X.calm = true) (hN : X.N.Nodup) (hi : PI X tg iter (tW S σ0 H0 xs enc)) (ok : BlkOk X.N X.env.scope scope own)
    (hg : Blk X scope fun Y => PG Y tg g) (hl : xs.length ≤ 100000)
    (h : ∀ a ∈ xs, ∀ S' H v, Up S H0 S' H → enc a v (hid S' H) → Item X scope elt ifs g (own.map (·.2)) (wipe σ0 (own.map (·.2))) S' H v (p a) (en (f a))) (hs : ∀ x, foldedSetIterable iter X.env x = pure x := by intro _; rfl) :
    PE X (.ListComp elt [⟨tg, iter, ifs, 0⟩] scope pos) (tR S σ0 H0 (isD (.list (((xs.filter p).map f).map en)))) :=
  r_lcE en hc hN (w_E hi) ok hg hl h hs
/-- without tests -/
theorem r_lcA {xs : List α} {enc : α → RV} {g : TG} {own : List (Str × Nat)} {f : α → β} (en : β → PyData) (hc : X.calm = true) (hN : X.N.Nodup) (hi : PI X tg iter (tW S σ0 H0 xs enc)) (ok : BlkOk X.N X.env.scope scope own)
    (hg : Blk X scope fun Y => PG Y tg g) (hl : xs.length ≤ 100000)
    (h : ∀ a ∈ xs, ∀ S' H v, Up S H0 S' H → enc a v (hid S' H) → Item X scope elt ifs g (own.map (·.2)) (wipe σ0 (own.map (·.2))) S' H v true (en (f a))) (hs : ∀ x, foldedSetIterable iter X.env x = pure x := by intro _; rfl) :
    PE X (.ListComp elt [⟨tg, iter, ifs, 0⟩] scope pos) (tR S σ0 H0 (isD (.list ((xs.map f).map en)))) := by
  have q := r_lc (p := fun _ => true) (f := f) (pos := pos) en hc hN hi ok hg hl h hs
  rw [List.filter_eq_self.mpr (fun _ _ => rfl)] at q
  exact q
end

/-! ### statements -/
/-- run from these slots and this heap the block comes to what D wants -/
structure SW (X : Cx) (D : Ends) (sts : List Stmt) (σ : L2.St) (H : Hp) : Prop where
  run : ∀ pins s, Inv X pins σ H s → wpAny (model X.prog X.w) X.A (execs sts X.env) (SP X pins D) X.xe s
section
variable {X : Cx} {S : List Addr} {σ : L2.St} {H : Hp} {R Ra Rb Rz : RV} {a b e c tg iter : Expr} {es : List Expr} {pos : Pos} {d : PyData} {D : Ends} {st : Stmt} {rest sts : List Stmt} {α β : Type}
theorem pss_SW : PSs X sts (fun D σ H => SW X D sts σ H) := ⟨fun pins s σ H D I h => h.run pins s I⟩
theorem sw_of {t : TS} (h : PSs X sts t) (q : t D σ H) : SW X D sts σ H := ⟨fun pins s I => h.run pins s σ H D I q⟩
theorem sw_cons {t : TS} (h : PS X st t) (q : t { D with nx := fun σ' H' => SW X D rest σ' H' } σ H) : SW X D (st :: rest) σ H := sw_of (pss_cons h pss_SW) q
theorem sw_nil (q : D.nx σ H) : SW X D [] σ H := sw_of pss_nil q
theorem sw_set {i : Nat} {x : Str} {p' : Pos} (hN : X.N.Nodup) (hi : X.N[i]? = some x) (hx : Loc X.env.scope x) (al : Al S H) (he : PE X e (tR S σ H R)) (k : ∀ v H1, Ex H H1 → Al S H1 → R v (hid S H1) → SW X D rest (σ.set i (some v)) H1)
    (hs : swapsWith e (some (.Name x p')) pos.line X.env = pure false := by rfl) (hf : X.fn x = true ∨ X.env.scope.names.lookup x = some .local := by first | exact .inl rfl | exact .inr rfl | assumption) : SW X D (.Assign [.Name x p'] e pos :: rest) σ H :=
  sw_cons (ps_set hN hi hx he hs hf) ⟨rfl, Ex.refl _, al, fun v H1 e1 r => k v H1 e1 (al.ex e1) r⟩
theorem sw_ret (al : Al S H) (he : PE X e (tR S σ H R)) (k : ∀ v H1, Ex H H1 → Al S H1 → R v (hid S H1) → D.rt v H1) : SW X D (.Return (some e) pos :: rest) σ H :=
  sw_cons (ps_ret he) ⟨rfl, Ex.refl _, al, fun v H1 e1 r => k v H1 e1 (al.ex e1) r⟩
theorem sw_expr (al : Al S H) (he : PE X e (tR S σ H R)) (k : ∀ v H1, Ex H H1 → Al S H1 → R v (hid S H1) → SW X D rest σ H1) (hs : swapsWith e none pos.line X.env = pure false := by rfl) : SW X D (.Expr e pos :: rest) σ H :=
  sw_cons (ps_expr he hs) ⟨rfl, Ex.refl _, al, fun v H1 e1 r => k v H1 e1 (al.ex e1) r⟩
theorem sw_if {x : Bool} {A B : List Stmt} (al : Al S H) (hc : PT X c (tRT S σ H x)) (h1 : x = true → ∀ H1, Ex H H1 → Al S H1 → SW X { D with nx := fun σ' H' => SW X D rest σ' H' } A σ H1) (h2 : x = false → ∀ H1, Ex H H1 → Al S H1 → SW X { D with nx := fun σ' H' => SW X D rest σ' H' } B σ H1) : SW X D (.If c A B pos :: rest) σ H :=
  sw_cons (ps_if hc pss_SW pss_SW) ⟨rfl, Ex.refl _, al, fun H1 e1 => by
    cases x with
    | true => rw [if_pos rfl]; exact h1 rfl H1 e1 (al.ex e1)
    | false => rw [if_neg Bool.false_ne_true]; exact h2 rfl H1 e1 (al.ex e1)⟩
theorem sw_brk (q : D.bk σ H) : SW X D (.Break pos :: rest) σ H := sw_cons ps_break q
/-- a comprehension stored on its own line -/
theorem sw_setLc {xs : List α} {enc : α → RV} {g : TG} {own : List (Str × Nat)} {p : α → Bool} {f : α → β} (en : β → PyData) {elt : Expr} {ifs : List Expr} {scope : Scope} {i : Nat} {y : Str} {py : Pos} {spos : Pos} (hc : X.calm = true) (hN : X.N.Nodup) (hy : X.N[i]? = some y) (hyl : X.env.scope.names.lookup y = some .local)
    (hsw : swapsWith (.ListComp elt [⟨tg, iter, ifs, 0⟩] scope pos) (some (.Name y py)) spos.line X.env = pure true) (al : Al S H) (hi : PI X tg iter (tW S σ H xs enc)) (ok : BlkOk X.N X.env.scope scope own)
    (hg : Blk X scope fun Y => PG Y tg g) (hl : xs.length ≤ 100000)
    (h : ∀ a ∈ xs, ∀ S' H' v, Up S H S' H' → enc a v (hid S' H') → Item X scope elt ifs g (own.map (·.2)) (wipe σ (own.map (·.2))) S' H' v (p a) (en (f a)))
    (k : ∀ v H1, Ex H H1 → Al S H1 → Dt (hid S H1) v (.list (((xs.filter p).map f).map en)) → SW X D rest (σ.set i (some v)) H1) (hs : ∀ x, foldedSetIterable iter X.env x = pure x := by intro _; rfl) :
    SW X D (.Assign [.Name y py] (.ListComp elt [⟨tg, iter, ifs, 0⟩] scope pos) spos :: rest) σ H :=
  sw_cons (ps_setLc hc hN hy hyl hsw (w_E hi) ok hg pts_ttB pe_teB hs) (lc_R (f := en ∘ f) rfl hl h σ H _ ⟨rfl, Ex.refl _, al, fun v H1 e1 r => k v H1 e1 (al.ex e1) (by rw [List.map_map]; exact r)⟩)
/-! ### loops -/
/-- how a turn's item is stored -/
structure Stored (g : TG) (v : V) (σ : L2.St) (H : Hp) (P : L2.St → Prop) : Prop where
  ex : ∃ σ', (∀ Q : L2.St → Hp → Prop, Q σ' H → g v σ H Q) ∧ P σ'
theorem Stored.name {j : Nat} {v : V} {P : L2.St → Prop} (h : P (σ.set j (some v))) : Stored (gName j) v σ H P := ⟨_, fun _ q => q, h⟩
theorem Stored.pair {i j : Nat} {v : V} {P : L2.St → Prop} (hv : pairR Ra Rb v (hid S H)) (h : ∀ x y, Ra x (hid S H) → Rb y (hid S H) → P ((σ.set i (some x)).set j (some y))) : Stored (gTup X.K 2 (gCons (gName i) (gCons (gName j) gNil))) v σ H P := by
  obtain ⟨t, x, y, rfl, ht, ra, rb⟩ := hv
  exact ⟨_, fun Q q => ⟨t, [x, y], rfl, SqT.of (hid_le _ _ ht), rfl, x, [y], rfl, y, [], rfl, rfl, q⟩, h x y ra rb⟩
theorem sw_for {xs : List α} {enc : α → RV} {g : TG} {body : List Stmt} (hp : PassesOwn (model X.prog X.w) X.A X.env X.xe) (hc : X.calm = true) (al : Al S H) (hi : PI X tg iter (tW S σ H xs enc)) (hg : PG X tg g)
    (h : ∀ H1, Ex H H1 → Al S H1 → ∃ Pv : List α → L2.St → Hp → Prop, Pv [] σ H1 ∧
      (∀ pre x post, xs = pre ++ x :: post → ∀ σ' H', Ex (hid S H1) (hid S H') → Al S H' → Pv pre σ' H' → ∀ v H2, Ex H' H2 → Al S H2 → enc x v (hid S H2) →
        Stored g v σ' H2 fun σ2 => SW X { D with nx := fun σ3 H3 => Ex (hid S H1) (hid S H3) ∧ Al S H3 ∧ Pv (pre ++ [x]) σ3 H3, ct := fun σ3 H3 => Ex (hid S H1) (hid S H3) ∧ Al S H3 ∧ Pv (pre ++ [x]) σ3 H3, bk := fun σ3 H3 => SW X D rest σ3 H3 } body σ2 H2) ∧
      (∀ σ' H', Ex (hid S H1) (hid S H') → Al S H' → Pv xs σ' H' → SW X D rest σ' H')) (hs : ∀ x, foldedSetIterable iter X.env x = pure x := by intro _; rfl) : SW X D (.For tg iter body [] pos :: rest) σ H := by
  refine sw_cons (ps_for hp hc hi hg pss_SW hs) ⟨rfl, Ex.refl _, al, fun J H1 e1 W => ?_⟩
  obtain ⟨Pv, h0, hs, hd⟩ := h H1 e1 (al.ex e1)
  refine ⟨fun i m σ' H' => m = xs.length - i ∧ i ≤ xs.length ∧ Ex (hid S H1) (hid S H') ∧ Al S H' ∧ Pv (xs.take i) σ' H', ⟨xs.length, by simp, Nat.zero_le _, Ex.refl _, al.ex e1, by simpa using h0⟩, ?_⟩
  rintro i m σ' H' ⟨rfl, hi, eF, al', pv⟩
  by_cases hlt : i < xs.length
  · refine .inr ⟨W.goes i _ _ hlt eF al', fun σ3 H3 => Ex (hid S H1) (hid S H3) ∧ Al S H3 ∧ Pv (xs.take i ++ [xs[i]]) σ3 H3, fun σ3 H3 ⟨a, b, q⟩ => ⟨xs.length - (i + 1), by omega, rfl, hlt, a, b, by rw [List.take_append_getElem hlt] at q; exact q⟩, fun x H2 y => ?_⟩
    have hget : xs[i]? = some xs[i] := by simp [hlt]
    obtain ⟨e2, en⟩ := W.yields i xs[i] S H' x H2 hget eF al' y
    obtain ⟨σ2, gs, q⟩ := (hs (xs.take i) xs[i] (xs.drop (i + 1)) (by rw [← List.drop_eq_getElem_cons hlt, List.take_append_drop]) σ' H' eF al' pv x H2 e2 (al'.ex e2) en).ex
    exact gs _ q
  · have ei : i = xs.length := by omega
    subst ei
    rw [List.take_length] at pv
    exact .inl ⟨W.stops _ _ eF al', hd σ' H' eF al' pv⟩
def tcAll (X : Cx) (c : Expr) : TT := fun σ H Q => ∀ pins s, Inv X pins σ H s → wpAny (model X.prog X.w) X.A (isTrue c X.env (eval c X.env)) (TP X pins σ Q) X.xe s
theorem pt_all : PT X c (tcAll X c) := ⟨fun pins s σ H Q I h => h pins s I⟩
theorem sw_while {body : List Stmt} (hp : PassesOwn (model X.prog X.w) X.A X.env X.xe) (Pv : Nat → L2.St → Hp → Prop) {m : Nat} (h0 : Pv m σ H)
    (h : ∀ m σ' H', Pv m σ' H' → ∃ S b, PT X c (tRT S σ' H' b) ∧ Al S H' ∧ (b = true → ∀ H2, Ex H' H2 → SW X { D with nx := fun σ3 H3 => ∃ m', m' < m ∧ Pv m' σ3 H3, ct := fun σ3 H3 => ∃ m', m' < m ∧ Pv m' σ3 H3, bk := fun σ3 H3 => SW X D rest σ3 H3 } body σ' H2) ∧ (b = false → ∀ H2, Ex H' H2 → SW X D rest σ' H2)) :
    SW X D (.While c body [] pos :: rest) σ H := by
  refine sw_cons (ps_while hp pt_all pss_SW) ⟨Pv, ⟨m, h0⟩, fun m σ' H' pv => ?_⟩
  obtain ⟨S, b, ht, al, k1, k2⟩ := h m σ' H' pv
  intro pins s I
  refine ht.run pins s σ' H' _ I ⟨rfl, Ex.refl _, al, fun H2 e2 => ?_⟩
  cases b with
  | true => rw [if_pos rfl]; exact ⟨_, fun _ _ q => q, k1 rfl H2 e2⟩
  | false => rw [if_neg Bool.false_ne_true]; exact k2 rfl H2 e2
end
end N34

set_option Elab.async false
set_option linter.all false
set_option maxRecDepth 100000
set_option maxHeartbeats 1000000
/-! what stands in the slots, what in the cells: one word through a body -/
namespace N34
open PySem PySem.Spec PyProof.Rows L2
abbrev CR := HO → Hp → Prop
structure MonoC (C : CR) : Prop where
  mono : ∀ o H H', Ex H H' → C o H → C o H'
  nt : ∀ o H, C o H → NT o
abbrev Ga := List (Option RV)
abbrev Ce := List (Addr × CR)
/-- S: what may change; Bs: heaps that stand; Γ: what the slots hold; M: what the cells hold -/
structure Sg (S : List Addr) (Bs : List Hp) (Γ : Ga) (M : Ce) (σ : L2.St) (H : Hp) : Prop where
  al : Al S H
  ex : ∀ B ∈ Bs, Ex B H
  len : σ.length = Γ.length
  sl : ∀ (i : Nat) (R : RV), Γ[i]? = some (some R) → Mono R ∧ ∃ v, σ[i]? = some (some v) ∧ R v (hid S H)
  ce : ∀ p ∈ M, p.1 ∈ S ∧ (∀ B ∈ Bs, B p.1 = none) ∧ MonoC p.2 ∧ ∃ o, H p.1 = some o ∧ p.2 o (hid S H)
  nd : (M.map (·.1)).Nodup
section
variable {S S' : List Addr} {Bs : List Hp} {Γ Γ' : Ga} {M M' : Ce} {σ : L2.St} {H H' : Hp} {R : RV} {v : V} {i : Nat}
theorem Sg.up (g : Sg S Bs Γ M σ H) (u : Up S H S' H') : Sg S' Bs Γ M σ H' :=
  ⟨u.al, fun B hB => (g.ex B hB).trans u.ex, g.len, fun i R h => by
    obtain ⟨m, v, h1, h2⟩ := g.sl i R h
    exact ⟨m, v, h1, m _ _ _ u.hid h2⟩, fun p hp => by
    obtain ⟨h1, h2, m, o, h3, h4⟩ := g.ce p hp
    exact ⟨u.sub _ h1, h2, m, o, u.ex _ _ h3, m.mono _ _ _ u.hid h4⟩, g.nd⟩
theorem Sg.next (g : Sg S Bs Γ M σ H) (e : Ex H H') : Sg S Bs Γ M σ H' := g.up (.of e (g.al.ex e))
theorem Sg.set (g : Sg S Bs Γ M σ H) (hi : i < Γ.length) (m : Mono R) (r : R v (hid S H)) : Sg S Bs (Γ.set i (some R)) M (σ.set i (some v)) H :=
  ⟨g.al, g.ex, by rw [List.length_set, List.length_set]; exact g.len, fun j R' h => by
    by_cases e : i = j
    · subst e
      rw [List.getElem?_set_self hi] at h
      have e2 : R = R' := by cases h; rfl
      subst e2
      exact ⟨m, v, by rw [List.getElem?_set_self (by rw [g.len]; exact hi)], r⟩
    · rw [List.getElem?_set_ne e] at h ⊢
      exact g.sl j R' h, g.ce, g.nd⟩
def wipeG (Γ : Ga) : List Nat → Ga
  | [] => Γ
  | v :: vs => (wipeG Γ vs).set v none
theorem wipeG_len : ∀ vs : List Nat, (wipeG Γ vs).length = Γ.length
  | [] => rfl
  | v :: vs => by unfold wipeG; rw [List.length_set, wipeG_len vs]
theorem Sg.wipe (g : Sg S Bs Γ M σ H) : ∀ vs : List Nat, Sg S Bs (wipeG Γ vs) M (L2.wipe σ vs) H
  | [] => g
  | v :: vs => by
    have q := Sg.wipe g vs
    refine ⟨q.al, q.ex, by unfold wipeG L2.wipe; rw [List.length_set, List.length_set]; exact q.len, fun j R h => ?_, q.ce, q.nd⟩
    unfold wipeG at h
    unfold L2.wipe
    by_cases e : v = j
    · subst e
      by_cases hv : v < (wipeG Γ vs).length
      · rw [List.getElem?_set_self hv] at h; cases h
      · rw [List.getElem?_eq_none (by rw [List.length_set]; omega)] at h; cases h
    · rw [List.getElem?_set_ne e] at h ⊢
      exact q.sl j R h
theorem wipe_in {σ : L2.St} {j : Nat} : ∀ {vs : List Nat}, j ∈ vs → j < σ.length → (L2.wipe σ vs)[j]? = some none
  | v :: vs, h, hl => by
    unfold L2.wipe
    by_cases e : v = j
    · subst e; rw [List.getElem?_set_self (by rw [wipe_length]; exact hl)]
    · rw [List.getElem?_set_ne e]
      exact wipe_in ((List.mem_cons.mp h).elim (fun z => absurd z.symm e) id) hl
theorem wipe_nin {σ : L2.St} {j : Nat} : ∀ {vs : List Nat}, j ∉ vs → (L2.wipe σ vs)[j]? = σ[j]?
  | [], _ => rfl
  | v :: vs, h => by
    unfold L2.wipe
    rw [List.getElem?_set_ne (fun e => h (by rw [e]; exact List.mem_cons_self))]
    exact wipe_nin fun z => h (List.mem_cons_of_mem _ z)
theorem wipe_get (σ : L2.St) (vs : List Nat) (j : Nat) : (L2.wipe σ vs)[j]? = if j ∈ vs ∧ j < σ.length then some none else σ[j]? := by
  by_cases h : j ∈ vs
  · by_cases hl : j < σ.length
    · rw [if_pos ⟨h, hl⟩, wipe_in h hl]
    · rw [if_neg fun z => hl z.2, List.getElem?_eq_none (by rw [wipe_length]; omega), List.getElem?_eq_none (by omega)]
  · rw [if_neg fun z => h z.1, wipe_nin h]
/-- slots that are wiped: what was set there is gone -/
theorem wipe_same {τ : L2.St} {vs : List Nat} (hl : τ.length = σ.length) (h : ∀ j, j ∉ vs → τ[j]? = σ[j]?) : L2.wipe τ vs = L2.wipe σ vs := by
  refine List.ext_getElem? fun j => ?_
  rw [wipe_get, wipe_get, hl]
  by_cases c : j ∈ vs ∧ j < σ.length
  · rw [if_pos c, if_pos c]
  · rw [if_neg c, if_neg c]
    by_cases hj : j ∈ vs
    · have hn : ¬ j < σ.length := fun z => c ⟨hj, z⟩
      rw [List.getElem?_eq_none (by omega), List.getElem?_eq_none (by omega)]
    · exact h j hj
theorem wipe_set {vs : List Nat} {j : Nat} {x : V} (hj : j ∈ vs) : L2.wipe ((L2.wipe σ vs).set j (some x)) vs = L2.wipe σ vs := by
  refine (wipe_same (σ := σ) (by rw [List.length_set, wipe_length]) fun i hi => ?_)
  rw [List.getElem?_set_ne (fun e => hi (by rw [← e]; exact hj)), wipe_nin hi]
theorem wipe_set2 {vs : List Nat} {i j : Nat} {x y : V} (hi : i ∈ vs) (hj : j ∈ vs) : L2.wipe (((L2.wipe σ vs).set i (some x)).set j (some y)) vs = L2.wipe σ vs := by
  refine (wipe_same (σ := σ) (by rw [List.length_set, List.length_set, wipe_length]) fun k hk => ?_)
  rw [List.getElem?_set_ne (fun e => hk (by rw [← e]; exact hj)), List.getElem?_set_ne (fun e => hk (by rw [← e]; exact hi)), wipe_nin hk]
theorem wipe_set3 {vs : List Nat} {i j l : Nat} {x y z : V} (hi : i ∈ vs) (hj : j ∈ vs) (hl : l ∈ vs) : L2.wipe ((((L2.wipe σ vs).set i (some x)).set j (some y)).set l (some z)) vs = L2.wipe σ vs := by
  refine (wipe_same (σ := σ) (by rw [List.length_set, List.length_set, List.length_set, wipe_length]) fun k hk => ?_)
  rw [List.getElem?_set_ne (fun e => hk (by rw [← e]; exact hl)), List.getElem?_set_ne (fun e => hk (by rw [← e]; exact hj)), List.getElem?_set_ne (fun e => hk (by rw [← e]; exact hi)), wipe_nin hk]
/-- less is known -/
inductive LeG : Ga → Ga → Prop
  | nil : LeG [] []
  | drop {r Γ Γ'} : LeG Γ Γ' → LeG (none :: Γ) (r :: Γ')
  | keep {r Γ Γ'} : LeG Γ Γ' → LeG (r :: Γ) (r :: Γ')
  | to {R R' : RV} {Γ Γ'} : Mono R → (∀ v F, R' v F → R v F) → LeG Γ Γ' → LeG (some R :: Γ) (some R' :: Γ')
theorem LeG.len : ∀ {Γ Γ' : Ga}, LeG Γ Γ' → Γ.length = Γ'.length
  | _, _, .nil => rfl
  | _, _, .drop h => congrArg Nat.succ h.len
  | _, _, .keep h => congrArg Nat.succ h.len
  | _, _, .to _ _ h => congrArg Nat.succ h.len
theorem LeG.get : ∀ {Γ Γ' : Ga} {i : Nat} {R : RV}, LeG Γ Γ' → Γ[i]? = some (some R) → ∃ R', Γ'[i]? = some (some R') ∧ (Mono R' → Mono R) ∧ ∀ v F, R' v F → R v F
  | _, _, _, _, .nil, h => by simp at h
  | _, _, 0, R, .drop _, h => by simp at h
  | _, _, i + 1, R, .drop q, h => by simpa using q.get (i := i) (R := R) (by simpa using h)
  | _, _, 0, R, .keep _, h => ⟨R, by simpa using h, fun m => m, fun _ _ z => z⟩
  | _, _, i + 1, R, .keep q, h => by simpa using q.get (i := i) (R := R) (by simpa using h)
  | _, _, 0, R, .to (R' := R') m f _, h => by
    have e := Option.some.inj (Option.some.inj h)
    subst e
    exact ⟨R', rfl, fun _ => m, f⟩
  | _, _, i + 1, R, .to m f q, h => by simpa using q.get (i := i) (R := R) (by simpa using h)
theorem LeG.refl : ∀ Γ : Ga, LeG Γ Γ
  | [] => .nil
  | _ :: Γ => .keep (LeG.refl Γ)
theorem Sg.wk {Bs' : List Hp} (g : Sg S' Bs' Γ' M' σ H) (hS : ∀ b ∈ S, b ∈ S') (hB : ∀ B ∈ Bs, B ∈ Bs') (hG : LeG Γ Γ') (hM : ∀ p ∈ M, p ∈ M' ∧ p.1 ∈ S) (hn : (M.map (·.1)).Nodup) : Sg S Bs Γ M σ H :=
  ⟨fun a h => g.al a (hS a h), fun B h => g.ex B (hB B h), by rw [hG.len]; exact g.len, fun i R h => by
    obtain ⟨R', h1, m, f⟩ := hG.get h
    obtain ⟨m', v, h2, h3⟩ := g.sl i R' h1
    exact ⟨m m', v, h2, f _ _ (m' _ _ _ (hid_more hS) h3)⟩, fun p hp => by
    obtain ⟨h1, h2⟩ := hM p hp
    obtain ⟨h3, h4, m, o, h5, h6⟩ := g.ce p h1
    exact ⟨h2, fun B hb => h4 B (hB B hb), m, o, h5, m.mono _ _ _ (hid_more hS) h6⟩, hn⟩
theorem Sg.le (g : Sg S Bs Γ' M σ H) (hG : LeG Γ Γ') : Sg S Bs Γ M σ H := g.wk (fun _ h => h) (fun _ h => h) hG (fun p hp => ⟨hp, (g.ce p hp).1⟩) g.nd
theorem Sg.base (g : Sg S Bs Γ M σ H) : Sg S (hid S H :: Bs) Γ M σ H :=
  ⟨g.al, fun B hB => (List.mem_cons.mp hB).elim (fun e => by rw [e]; exact hid_le) (g.ex B), g.len, g.sl, fun p hp => by
    obtain ⟨h1, h2, h3⟩ := g.ce p hp
    exact ⟨h1, fun B hB => (List.mem_cons.mp hB).elim (fun e => by rw [e]; exact hid_in h1) (h2 B), h3⟩, g.nd⟩
theorem Sg.unbase {B : Hp} (g : Sg S (B :: Bs) Γ M σ H) : Sg S Bs Γ M σ H := g.wk (fun _ h => h) (fun _ h => List.mem_cons_of_mem _ h) (LeG.refl Γ) (fun p hp => ⟨hp, (g.ce p hp).1⟩) g.nd
/-- another cell's content -/
theorem Sg.put {l : Addr} {C C' : CR} {o : HO} {i : Nat} (g : Sg S Bs Γ M σ H) (hi : M[i]? = some (l, C)) (m : MonoC C') (h : C' o (hid S H)) : Sg S Bs Γ (M.set i (l, C')) σ (upd H l o) := by
  obtain ⟨hl, he⟩ := List.getElem?_eq_some_iff.mp hi
  obtain ⟨h1, h2, _, o', h3, _⟩ := g.ce (l, C) (by rw [← he]; exact List.getElem_mem hl)
  have e : hid S (upd H l o) = hid S H := hid_upd h1
  refine ⟨Al.upd g.al (m.nt _ _ h), fun B hB => (g.ex B hB).mut (h2 B hB), g.len, fun i R q => by rw [e]; exact g.sl i R q, fun p hp => ?_, ?_⟩
  · rw [e]
    obtain ⟨j, hj⟩ := List.getElem?_of_mem hp
    by_cases q : i = j
    · subst q
      rw [List.getElem?_set_self hl] at hj
      have z := Option.some.inj hj
      subst z
      exact ⟨h1, h2, m, o, upd_same, h⟩
    · rw [List.getElem?_set_ne q] at hj
      obtain ⟨k1, k2, k3, o2, k4, k5⟩ := g.ce p (List.mem_of_getElem? hj)
      refine ⟨k1, k2, k3, o2, ?_, k5⟩
      rw [upd_ne fun z => ?_]
      · exact k4
      · refine q ((List.getElem?_inj (l := M.map (·.1)) (by rw [List.length_map]; exact hl) g.nd).mp ?_)
        rw [List.getElem?_map, List.getElem?_map, hi, hj]
        exact congrArg some z.symm
  · have q : (M.set i (l, C')).map (·.1) = M.map (·.1) := by
      rw [List.map_set]
      refine List.ext_getElem? fun j => ?_
      by_cases z : i = j
      · subst z
        rw [List.getElem?_set_self (by rw [List.length_map]; exact hl), List.getElem?_map, hi]; rfl
      · rw [List.getElem?_set_ne z]
    rw [q]; exact g.nd
/-- a new cell -/
theorem Sg.cell {l : Addr} {C : CR} {o : HO} (g : Sg S Bs Γ M σ H) (e : Ex H H') (hl : H l = none) (ho : H' l = some o) (m : MonoC C) (h : C o (hid (l :: S) H')) : Sg (l :: S) Bs Γ ((l, C) :: M) σ H' := by
  have u : Up S H (l :: S) H' := ⟨e, fun b hb => List.mem_cons_of_mem _ hb, fun b hb => (List.mem_cons.mp hb).elim (fun z => .inr (by rw [z]; exact hl)) .inl, (g.al.ex e).cons ho (m.nt _ _ h)⟩
  have g' := g.up u
  refine ⟨g'.al, g'.ex, g'.len, g'.sl, fun p hp => ?_, List.nodup_cons.mpr ⟨fun z => ?_, g.nd⟩⟩
  · rcases List.mem_cons.mp hp with z | z
    · rw [z]; exact ⟨List.mem_cons_self, fun B hB => (g.ex B hB).free hl, m, o, ho, h⟩
    · exact g'.ce p z
  · obtain ⟨p, hp, e⟩ := List.mem_map.mp z
    obtain ⟨_, _, _, o2, q, _⟩ := g.ce p hp
    have e' : p.1 = l := e
    rw [e', hl] at q; cases q
/-- at a def's entry -/
theorem Sg.startE {Rs : List RV} {vs : List V} {N : List Str} (al : Al S H) (m : MonoA Rs) (h : AllR Rs vs (hid S H)) (hn : vs.length ≤ N.length) (hB : ∀ B ∈ Bs, Ex B H) (hM : ∀ p ∈ M, p.1 ∈ S ∧ (∀ B ∈ Bs, B p.1 = none) ∧ MonoC p.2 ∧ ∃ o, H p.1 = some o ∧ p.2 o (hid S H)) (nd : (M.map (·.1)).Nodup) : Sg S Bs (Rs.map some ++ List.replicate (N.length - Rs.length) none) M (L2.start N vs) H := by
  have hlen : ∀ {Rs : List RV} {vs : List V}, AllR Rs vs (hid S H) → vs.length = Rs.length := by
    intro Rs
    induction Rs with
    | nil => intro vs h; rw [show vs = [] from h]; rfl
    | cons R Rs ih => intro vs h; obtain ⟨v, ws, rfl, _, h⟩ := h; exact congrArg Nat.succ (ih h)
  have hl := hlen h
  have hget : ∀ {Rs : List RV} {vs : List V}, MonoA Rs → AllR Rs vs (hid S H) → ∀ (i : Nat) (R : RV), Rs[i]? = some R → Mono R ∧ ∃ v, vs[i]? = some v ∧ R v (hid S H) := by
    intro Rs
    induction Rs with
    | nil => intro vs _ _ i R h; simp at h
    | cons R0 Rs ih =>
      intro vs m h i R hi
      obtain ⟨v, ws, rfl, h1, h2⟩ := h
      cases i with
      | zero => simp at hi; subst hi; exact ⟨m.1, v, rfl, h1⟩
      | succ i => simpa using ih m.2 h2 i R (by simpa using hi)
  refine ⟨al, hB, by unfold L2.start; simp; omega, fun i R q => ?_, hM, nd⟩
  by_cases hi : i < Rs.length
  · rw [List.getElem?_append_left (by simpa using hi), List.getElem?_map] at q
    cases c : Rs[i]? with
    | none => rw [c] at q; cases q
    | some R' =>
      rw [c] at q
      have e : R' = R := by cases q; rfl
      subst e
      obtain ⟨mm, v, h1, h2⟩ := hget m h i R' c
      refine ⟨mm, v, ?_, h2⟩
      unfold L2.start
      rw [List.getElem?_append_left (by simp; omega), List.getElem?_map, h1]; rfl
  · rw [List.getElem?_append_right (by simpa using hi)] at q
    obtain ⟨z1, z2⟩ := List.getElem?_eq_some_iff.mp q
    simp at z2
theorem Sg.start {Rs : List RV} {vs : List V} {N : List Str} (al : Al S H) (m : MonoA Rs) (h : AllR Rs vs (hid S H)) (hn : vs.length ≤ N.length) : Sg S [H] (Rs.map some ++ List.replicate (N.length - Rs.length) none) [] (L2.start N vs) H :=
  Sg.startE al m h hn (fun B hB => by rw [List.mem_singleton.mp hB]; exact Ex.refl _) (fun p hp => nomatch hp) List.nodup_nil
end

theorem blt {i n : Nat} (h : Nat.blt i n = true) : i < n := Nat.le_of_ble_eq_true h
/-! ### expressions -/
section
variable {X : Cx} {S : List Addr} {Bs : List Hp} {Γ : Ga} {M : Ce} {σ : L2.St} {H : Hp} {R Ra Rb : RV} {e elt tg iter : Expr} {ifs : List Expr} {α β : Type} {scope : Scope} {pos : Pos}
theorem g_v {i : Nat} (g : Sg S Bs Γ M σ H) (h : PE X e (tVar i)) (hG : Γ[i]? = some (some R) := by rfl) : PE X e (tR S σ H R) := by
  obtain ⟨m, v, h1, h2⟩ := g.sl i R hG
  exact r_varR m h h1 h2
theorem it_name {xs : List α} {enc : α → RV} {vs : List Nat} {p : α → Bool} {d : α → PyData} {j : Nat} (g : Sg S Bs Γ M σ H) (hj : j ∈ vs) (hl : Nat.blt j Γ.length = true) (me : ∀ a, Mono (enc a))
    (h : ∀ a ∈ xs, ∀ S' σ' H', Sg S' Bs ((wipeG Γ vs).set j (some (enc a))) M σ' H' → (Blk X scope fun Y => PTs Y ifs (tRT S' σ' H' (p a))) ∧ (p a = true → Blk X scope fun Y => PE Y elt (tR S' σ' H' (isD (d a))))) :
    ∀ a ∈ xs, ∀ S' H' v, Up S H S' H' → enc a v (hid S' H') → Item X scope elt ifs (gName j) vs (wipe σ vs) S' H' v (p a) (d a) := fun a ha S' H' v u en =>
  have q := h a ha S' _ H' (((g.up u).wipe vs).set (by rw [wipeG_len]; exact blt hl) (me a) en)
  Item.name (wipe_set hj) q.1 q.2
theorem pairR_mono (ma : Mono Ra) (mb : Mono Rb) : Mono (pairR Ra Rb) := fun v H H' e ⟨t, x, y, h1, h2, h3, h4⟩ => ⟨t, x, y, h1, e _ _ h2, ma _ _ _ e h3, mb _ _ _ e h4⟩
theorem it_pair {xs : List α} {ea eb : α → RV} {vs : List Nat} {p : α → Bool} {d : α → PyData} {i j : Nat} (g : Sg S Bs Γ M σ H) (hi : i ∈ vs) (hj : j ∈ vs) (hli : Nat.blt i Γ.length = true) (hl : Nat.blt j Γ.length = true) (ma : ∀ a, Mono (ea a)) (mb : ∀ a, Mono (eb a))
    (h : ∀ a ∈ xs, ∀ S' σ' H', Sg S' Bs (((wipeG Γ vs).set i (some (ea a))).set j (some (eb a))) M σ' H' → (Blk X scope fun Y => PTs Y ifs (tRT S' σ' H' (p a))) ∧ (p a = true → Blk X scope fun Y => PE Y elt (tR S' σ' H' (isD (d a))))) :
    ∀ a ∈ xs, ∀ S' H' v, Up S H S' H' → pairR (ea a) (eb a) v (hid S' H') → Item X scope elt ifs (gTup X.K 2 (gCons (gName i) (gCons (gName j) gNil))) vs (wipe σ vs) S' H' v (p a) (d a) := fun a ha S' H' v u en =>
  Item.pair en (fun x y => wipe_set2 hi hj) fun x y hx hy => h a ha S' _ H' ((((g.up u).wipe vs).set (by rw [wipeG_len]; exact blt hli) (ma a) hx).set (by rw [List.length_set, wipeG_len]; exact blt hl) (mb a) hy)
theorem it_trip {xs : List α} {ea eb ec : α → RV} {vs : List Nat} {p : α → Bool} {d : α → PyData} {i j l : Nat} (g : Sg S Bs Γ M σ H) (hi : i ∈ vs) (hj : j ∈ vs) (hk : l ∈ vs) (hli : Nat.blt i Γ.length = true) (hlj : Nat.blt j Γ.length = true) (hll : Nat.blt l Γ.length = true) (ma : ∀ a, Mono (ea a)) (mb : ∀ a, Mono (eb a)) (mc : ∀ a, Mono (ec a))
    (h : ∀ a ∈ xs, ∀ S' σ' H', Sg S' Bs ((((wipeG Γ vs).set i (some (ea a))).set j (some (eb a))).set l (some (ec a))) M σ' H' → (Blk X scope fun Y => PTs Y ifs (tRT S' σ' H' (p a))) ∧ (p a = true → Blk X scope fun Y => PE Y elt (tR S' σ' H' (isD (d a))))) :
    ∀ a ∈ xs, ∀ S' H' v, Up S H S' H' → tripR (ea a) (eb a) (ec a) v (hid S' H') → Item X scope elt ifs (gTup X.K 3 (gCons (gName i) (gCons (gName j) (gCons (gName l) gNil)))) vs (wipe σ vs) S' H' v (p a) (d a) := fun a ha S' H' v u en =>
  Item.trip en (fun x y z => wipe_set3 hi hj hk) fun x y z hx hy hz => h a ha S' _ H' (((((g.up u).wipe vs).set (by rw [wipeG_len]; exact blt hli) (ma a) hx).set (by rw [List.length_set, wipeG_len]; exact blt hlj) (mb a) hy).set (by rw [List.length_set, List.length_set, wipeG_len]; exact blt hll) (mc a) hz)

/-! ### statements -/
variable {D : Ends} {rest : List Stmt} {a b c : Expr}
theorem gs_set {i : Nat} {x : Str} {p' : Pos} (g : Sg S Bs Γ M σ H) (hN : X.N.Nodup) (he : PE X e (tR S σ H R)) (m : Mono R) (k : ∀ σ' H', Sg S Bs (Γ.set i (some R)) M σ' H' → SW X D rest σ' H') (hi : X.N[i]? = some x := by rfl) (hl : Nat.blt i Γ.length = true := by rfl)
    (hx : Loc X.env.scope x := by first | exact Or.inl rfl | exact Or.inr rfl) (hs : swapsWith e (some (.Name x p')) pos.line X.env = pure false := by rfl) (hf : X.fn x = true ∨ X.env.scope.names.lookup x = some .local := by first | exact .inl rfl | exact .inr rfl | assumption) : SW X D (.Assign [.Name x p'] e pos :: rest) σ H :=
  sw_set hN hi hx g.al he (fun v H1 e1 _ r => k _ _ ((g.next e1).set (blt hl) m r)) hs hf
theorem gs_ret (g : Sg S Bs Γ M σ H) (he : PE X e (tR S σ H R)) (k : ∀ v H', Sg S Bs Γ M σ H' → R v (hid S H') → D.rt v H') : SW X D (.Return (some e) pos :: rest) σ H :=
  sw_ret g.al he fun v H1 e1 _ r => k v H1 (g.next e1) r
theorem gs_if {x : Bool} {A B : List Stmt} (g : Sg S Bs Γ M σ H) (hc : PT X c (tRT S σ H x)) (h1 : x = true → ∀ H', Sg S Bs Γ M σ H' → SW X { D with nx := fun σ' H' => SW X D rest σ' H' } A σ H') (h2 : x = false → ∀ H', Sg S Bs Γ M σ H' → SW X { D with nx := fun σ' H' => SW X D rest σ' H' } B σ H') : SW X D (.If c A B pos :: rest) σ H :=
  sw_if g.al hc (fun q H1 e1 _ => h1 q H1 (g.next e1)) fun q H1 e1 _ => h2 q H1 (g.next e1)
/-- if c: A, no else -/
theorem gs_if1 {x : Bool} {A : List Stmt} (g : Sg S Bs Γ M σ H) (hc : PT X c (tRT S σ H x)) (h1 : x = true → ∀ H', Sg S Bs Γ M σ H' → SW X { D with nx := fun σ' H' => SW X D rest σ' H' } A σ H') (h2 : x = false → ∀ H', Sg S Bs Γ M σ H' → SW X D rest σ H') : SW X D (.If c A [] pos :: rest) σ H :=
  gs_if g hc h1 fun h H' g' => sw_nil (h2 h H' g')
theorem gs_setLc {xs : List α} {enc : α → RV} {gg : TG} {own : List (Str × Nat)} {p : α → Bool} {f : α → β} (en : β → PyData) {i : Nat} {y : Str} {py : Pos} {spos : Pos} (g : Sg S Bs Γ M σ H) (hc : X.calm = true) (hN : X.N.Nodup)
    (hi : PI X tg iter (tW S σ H xs enc)) (ok : BlkOk X.N X.env.scope scope own) (hg : Blk X scope fun Y => PG Y tg gg) (hl : xs.length ≤ 100000)
    (h : ∀ a ∈ xs, ∀ S' H' v, Up S H S' H' → enc a v (hid S' H') → Item X scope elt ifs gg (own.map (·.2)) (wipe σ (own.map (·.2))) S' H' v (p a) (en (f a)))
    (k : ∀ σ' H', Sg S Bs (Γ.set i (some (isD (.list (((xs.filter p).map f).map en))))) M σ' H' → SW X D rest σ' H') (hy : X.N[i]? = some y := by rfl) (hli : Nat.blt i Γ.length = true := by rfl) (hyl : X.env.scope.names.lookup y = some .local := by rfl)
    (hsw : swapsWith (.ListComp elt [⟨tg, iter, ifs, 0⟩] scope pos) (some (.Name y py)) spos.line X.env = pure true := by exact sw_true rfl rfl rfl (by decide +kernel)) (hs : ∀ x, foldedSetIterable iter X.env x = pure x := by intro _; rfl) :
    SW X D (.Assign [.Name y py] (.ListComp elt [⟨tg, iter, ifs, 0⟩] scope pos) spos :: rest) σ H :=
  sw_setLc en hc hN hy hyl hsw g.al hi ok hg hl h (fun v H1 e1 _ r => k _ _ ((g.next e1).set (blt hli) (isD_mono _) r)) hs
theorem gs_setLcE {xs : List α} {enc : α → RV} {gg : TG} {own : List (Str × Nat)} {p : α → Bool} {f : α → β} (en : β → PyData) {i : Nat} {y : Str} {py : Pos} {spos : Pos} (g : Sg S Bs Γ M σ H) (hc : X.calm = true) (hN : X.N.Nodup)
    (hi : PI X tg iter (tW S σ H xs enc)) (ok : BlkOk X.N X.env.scope scope own) (hg : Blk X scope fun Y => PG Y tg gg) (hl : xs.length ≤ 100000)
    (h : ∀ a ∈ xs, ∀ S' H' v, Up S H S' H' → enc a v (hid S' H') → Item X scope elt ifs gg (own.map (·.2)) (wipe σ (own.map (·.2))) S' H' v (p a) (en (f a)))
    {d : PyData} (hd : .list (((xs.filter p).map f).map en) = d) (k : ∀ σ' H', Sg S Bs (Γ.set i (some (isD d))) M σ' H' → SW X D rest σ' H') (hy : X.N[i]? = some y := by rfl) (hli : Nat.blt i Γ.length = true := by rfl) (hyl : X.env.scope.names.lookup y = some .local := by rfl)
    (hsw : swapsWith (.ListComp elt [⟨tg, iter, ifs, 0⟩] scope pos) (some (.Name y py)) spos.line X.env = pure true := by exact sw_true rfl rfl rfl (by decide +kernel)) (hs : ∀ x, foldedSetIterable iter X.env x = pure x := by intro _; rfl) :
    SW X D (.Assign [.Name y py] (.ListComp elt [⟨tg, iter, ifs, 0⟩] scope pos) spos :: rest) σ H := by
  subst hd
  exact gs_setLc en g hc hN hi ok hg hl h k hy hli hyl hsw hs
theorem gs_setLcA {xs : List α} {enc : α → RV} {gg : TG} {own : List (Str × Nat)} {f : α → β} (en : β → PyData) {i : Nat} {y : Str} {py : Pos} {spos : Pos} (g : Sg S Bs Γ M σ H) (hc : X.calm = true) (hN : X.N.Nodup)
    (hi : PI X tg iter (tW S σ H xs enc)) (ok : BlkOk X.N X.env.scope scope own) (hg : Blk X scope fun Y => PG Y tg gg) (hl : xs.length ≤ 100000)
    (h : ∀ a ∈ xs, ∀ S' H' v, Up S H S' H' → enc a v (hid S' H') → Item X scope elt ifs gg (own.map (·.2)) (wipe σ (own.map (·.2))) S' H' v true (en (f a)))
    (k : ∀ σ' H', Sg S Bs (Γ.set i (some (isD (.list ((xs.map f).map en))))) M σ' H' → SW X D rest σ' H') (hy : X.N[i]? = some y := by rfl) (hli : Nat.blt i Γ.length = true := by rfl) (hyl : X.env.scope.names.lookup y = some .local := by rfl)
    (hsw : swapsWith (.ListComp elt [⟨tg, iter, ifs, 0⟩] scope pos) (some (.Name y py)) spos.line X.env = pure true := by exact sw_true rfl rfl rfl (by decide +kernel)) (hs : ∀ x, foldedSetIterable iter X.env x = pure x := by intro _; rfl) :
    SW X D (.Assign [.Name y py] (.ListComp elt [⟨tg, iter, ifs, 0⟩] scope pos) spos :: rest) σ H := by
  refine gs_setLc (p := fun _ => true) en g hc hN hi ok hg hl h (fun σ' H' g' => ?_) hy hli hyl hsw hs
  rw [List.filter_eq_self.mpr (fun _ _ => rfl)] at g'
  exact k σ' H' g'
theorem gs_for {xs : List α} {enc : α → RV} {gg : TG} {body : List Stmt} (g : Sg S Bs Γ M σ H) (hp : PassesOwn (model X.prog X.w) X.A X.env X.xe) (hc : X.calm = true) (hi : PI X tg iter (tW S σ H xs enc)) (hg : PG X tg gg)
    (Γi : List α → Ga) (Mi : List α → Ce) (h0 : ∀ H', Sg S Bs Γ M σ H' → Sg S Bs (Γi []) (Mi []) σ H')
    (h : ∀ B pre x post, xs = pre ++ x :: post → ∀ σ' H' v, Sg S (B :: Bs) (Γi pre) (Mi pre) σ' H' → enc x v (hid S H') →
        Stored gg v σ' H' fun σ2 => SW X { D with nx := fun σ3 H3 => Sg S (B :: Bs) (Γi (pre ++ [x])) (Mi (pre ++ [x])) σ3 H3, ct := fun σ3 H3 => Sg S (B :: Bs) (Γi (pre ++ [x])) (Mi (pre ++ [x])) σ3 H3, bk := fun σ3 H3 => SW X D rest σ3 H3 } body σ2 H')
    (hd : ∀ σ' H', Sg S Bs (Γi xs) (Mi xs) σ' H' → SW X D rest σ' H') (hs : ∀ x, foldedSetIterable iter X.env x = pure x := by intro _; rfl) : SW X D (.For tg iter body [] pos :: rest) σ H := by
  refine sw_for hp hc g.al hi hg (fun H1 e1 al1 => ⟨fun pre σ' H' => Sg S (hid S H1 :: Bs) (Γi pre) (Mi pre) σ' H', (h0 H1 (g.next e1)).base, fun pre x post hx σ' H' eF al' pv v H2 e2 al2 en => ?_, fun σ' H' _ _ pv => hd σ' H' pv.unbase⟩) hs
  obtain ⟨σ2, gs, q⟩ := (h (hid S H1) pre x post hx σ' H2 v (pv.next e2) en).ex
  have cv : ∀ σ3 H3, Sg S (hid S H1 :: Bs) (Γi (pre ++ [x])) (Mi (pre ++ [x])) σ3 H3 → Ex (hid S H1) (hid S H3) ∧ Al S H3 ∧ Sg S (hid S H1 :: Bs) (Γi (pre ++ [x])) (Mi (pre ++ [x])) σ3 H3 := fun σ3 H3 g3 =>
    ⟨fun a o z => by rw [hid_out (hid_some z).1]; exact g3.ex _ List.mem_cons_self _ _ z, g3.al, g3⟩
  refine ⟨σ2, gs, ⟨fun pins s I => wpAny_mono (q.run pins s I) (fun f s' z => ?_) fun _ _ z => z⟩⟩
  cases f with
  | next => obtain ⟨σ', H', I', q⟩ := z; exact ⟨σ', H', I', cv _ _ q⟩
  | brk => exact z
  | cont => obtain ⟨σ', H', I', q⟩ := z; exact ⟨σ', H', I', cv _ _ q⟩
  | ret u => exact z
theorem gst_name {j : Nat} {v : V} {P : L2.St → Prop} (g : Sg S Bs Γ M σ H) (hl : Nat.blt j Γ.length = true) (m : Mono R) (r : R v (hid S H)) (h : ∀ σ', Sg S Bs (Γ.set j (some R)) M σ' H → P σ') : Stored (gName j) v σ H P := .name (h _ (g.set (blt hl) m r))
theorem gst_pair {i j : Nat} {v : V} {P : L2.St → Prop} (g : Sg S Bs Γ M σ H) (hi : Nat.blt i Γ.length = true) (hl : Nat.blt j Γ.length = true) (ma : Mono Ra) (mb : Mono Rb) (r : pairR Ra Rb v (hid S H)) (h : ∀ σ', Sg S Bs ((Γ.set i (some Ra)).set j (some Rb)) M σ' H → P σ') :
    Stored (gTup X.K 2 (gCons (gName i) (gCons (gName j) gNil))) v σ H P := .pair r fun x y hx hy => h _ ((g.set (blt hi) ma hx).set (by rw [List.length_set]; exact blt hl) mb hy)
end

/-! ### defs -/
section
variable {X : Cx} {D D' : Ends} {sts : List Stmt} {σ : L2.St} {H : Hp}
theorem SW_mono (h : SW X D sts σ H) (n : ∀ σ H, D.nx σ H → D'.nx σ H) (r : ∀ v H, D.rt v H → D'.rt v H) (b : ∀ σ H, D.bk σ H → D'.bk σ H := by intro _ _ h; exact h) (c : ∀ σ H, D.ct σ H → D'.ct σ H := by intro _ _ h; exact h) : SW X D' sts σ H := ⟨fun pins s I =>
  wpAny_mono (h.run pins s I) (fun f s' q => by
    cases f with
    | next => obtain ⟨σ', H', I', q⟩ := q; exact ⟨σ', H', I', n _ _ q⟩
    | brk => obtain ⟨σ', H', I', q⟩ := q; exact ⟨σ', H', I', b _ _ q⟩
    | cont => obtain ⟨σ', H', I', q⟩ := q; exact ⟨σ', H', I', c _ _ q⟩
    | ret u => obtain ⟨v, σ', H', I', rv, q⟩ := q; exact ⟨v, σ', H', I', rv, r _ _ q⟩) fun _ _ x => x⟩
end
/-- a built-in's name is not the module's -/
structure Bl (mg : Str → Option Value) : Prop where
  isinstance : mg "isinstance" = none
  int : mg "int" = none
  bool : mg "bool" = none
  tuple : mg "tuple" = none
  list : mg "list" = none
  all : mg "all" = none
  any : mg "any" = none
  sum : mg "sum" = none
  len : mg "len" = none
  zip : mg "zip" = none
  enumerate : mg "enumerate" = none
  sorted : mg "sorted" = none
  range : mg "range" = none
  min : mg "min" = none
  abs : mg "abs" = none
  repr : mg "repr" = none
  super : mg "super" = none
structure FnAt (K : PySem.W.Frag) (mg : Str → Option Value) (x : Str) (st : Stmt) : Prop where
  ex : ∃ f fd, FunD K x x (defArgs st) (defBody st) (defScope st) [] [] f fd ∧ mg x = some (.ref f)
section
variable {P : Program} {w : World} {K : PySem.W.Frag} {mg : Str → Option Value} {base : Heap}
/-- the context of a def's body -/
abbrev cxD (P : Program) (w : World) (K : PySem.W.Frag) (mg : Str → Option Value) (base : Heap) (N : List Str) (x : Str) (st : Stmt) (f : Addr) (cdv : Value) (A : Around) (outer : List Env) (s : Shared) (H : Hp) (E : XK) : Cx := (cxOf CX0 P w K mg base N x (defScope st) f cdv A outer s H E).nox
/-- what a pure def's body is to come to -/
abbrev endF (S : List Addr) (H : Hp) (R : RV) : Ends := { nx := fun _ H' => Ex H H' ∧ R .non (hid S H'), rt := fun v H' => Ex H H' ∧ R v (hid S H') }
/-- a promise kept by the def itself -/
structure ClF (P : Program) (w : World) (K : PySem.W.Frag) (mg : Str → Option Value) (base : Heap) (CX : CXT) (x : Str) (st : Stmt) (k : Nat) (ps : List Str) (sp : Sp) : Prop where
  ok : ∃ f fd, FnOk P w K mg base CX k f fd ps sp ∧ mg x = some (.ref f) ∧ FunD K x x (defArgs st) (defBody st) (defScope st) [] [] f fd
theorem ClF.cl {x : Str} {st : Stmt} {k : Nat} {ps : List Str} {sp : Sp} (c : ClF P w K mg base CX0 x st k ps sp)
    (hb : ∀ (kV doc pm : Value) (an : Option Addr) (cdv ct : Value) (us : List Value), us.length = ps.length → bindArgs (PySem.W.fnOf x x (defArgs st) (defBody st) (defScope st) .none kV doc pm an cdv ct) ⟨us, []⟩ = pure (ps.zip us)) : Cl P w K mg base x k ps sp := by
  obtain ⟨f, fd, F, hm, Fd⟩ := c.ok
  exact ⟨f, fd, F, hm, Fd.kp, Fd.bindsN hb⟩
theorem cl_ofF {x : Str} {st : Stmt} {N ps : List Str} {k : Nat} {pre : List V → Hp → RV → Prop} (F : FnAt K mg x st) (sc : FnScope N ps (defScope st)) (len : ∀ vs F R, pre vs F R → vs.length = ps.length)
    (body : ∀ f cdv A outer s H vs S R E, Room k (A.deeper (envOfC x (defScope st) s.heap.objs.size f cdv)) → Al S H → pre vs (hid S H) R → SW (cxD P w K mg base N x st f cdv A outer s H E) (endF S H R) (defBody st) (start N vs) H) :
    ClF P w K mg base CX0 x st (k + 1) ps (spF pre) := by
  obtain ⟨f, fd, Fd, hm⟩ := F.ex
  refine ⟨f, fd, Fd.ok sc (fun vs H Q E h => ?_) (fun cdv A outer s H vs Q E hr h => ?_), hm, Fd⟩
  · obtain ⟨S, R, al, h, _⟩ := h
    exact len vs _ R h
  · obtain ⟨S, R, al, h, q⟩ := h
    exact ⟨_, PSs.nox pss_SW, SW_mono (body f cdv A outer s H vs S R E hr al h) (fun σ H' z => q _ _ z.1 z.2) (fun v H' z => q _ _ z.1 z.2)⟩
theorem cl_of {x : Str} {st : Stmt} {N ps : List Str} {k : Nat} {pre : List V → Hp → RV → Prop} (F : FnAt K mg x st) (sc : FnScope N ps (defScope st)) (len : ∀ vs F R, pre vs F R → vs.length = ps.length)
    (hb : ∀ (kV doc pm : Value) (an : Option Addr) (cdv ct : Value) (us : List Value), us.length = ps.length → bindArgs (PySem.W.fnOf x x (defArgs st) (defBody st) (defScope st) .none kV doc pm an cdv ct) ⟨us, []⟩ = pure (ps.zip us))
    (body : ∀ f cdv A outer s H vs S R E, Room k (A.deeper (envOfC x (defScope st) s.heap.objs.size f cdv)) → Al S H → pre vs (hid S H) R → SW (cxD P w K mg base N x st f cdv A outer s H E) (endF S H R) (defBody st) (start N vs) H) :
    Cl P w K mg base x (k + 1) ps (spF pre) := (cl_ofF F sc len body).cl hb
/-- from p (the arguments' data): what the arguments hold, what is asked, what comes -/
def spD {π : Type} (Rs : π → List RV) (side : π → Prop) (res : π → PyData) : List V → Hp → RV → Prop := fun vs F R => ∃ p, AllR (Rs p) vs F ∧ side p ∧ ∀ v F', Dt F' v (res p) → R v F'
theorem AllR.length {H : Hp} : ∀ {Rs : List RV} {vs : List V}, AllR Rs vs H → vs.length = Rs.length
  | [], _, h => by rw [show _ = [] from h]; rfl
  | _ :: _, _, ⟨v, ws, h1, h2, h3⟩ => by rw [h1]; exact congrArg Nat.succ h3.length
/-- a def that changes nothing: its body from the word of its entry -/
theorem cl_DF {π : Type} {Rs : π → List RV} {side : π → Prop} {res : π → PyData} {x : Str} {st : Stmt} {N ps : List Str} {k : Nat} (F : FnAt K mg x st) (sc : FnScope N ps (defScope st)) (hm : ∀ p, MonoA (Rs p)) (hl : ∀ p, (Rs p).length = ps.length) (hn : ps.length ≤ N.length)
    (body : ∀ f cdv A outer s H σ S R E p, Room k (A.deeper (envOfC x (defScope st) s.heap.objs.size f cdv)) → Sg S [H] ((Rs p).map some ++ List.replicate (N.length - (Rs p).length) none) [] σ H → side p → (∀ v F', Dt F' v (res p) → R v F') → SW (cxD P w K mg base N x st f cdv A outer s H E) (endF S H R) (defBody st) σ H) :
    ClF P w K mg base CX0 x st (k + 1) ps (spF (spD Rs side res)) := by
  refine cl_ofF F sc (fun vs F R ⟨p, h, _⟩ => h.length.trans (hl p)) fun f cdv A outer s H vs S R E hr al ⟨p, h, hs, hR⟩ => ?_
  exact body f cdv A outer s H _ S R E p hr (Sg.start al (hm p) h (by rw [h.length, hl p]; exact hn)) hs hR
theorem cl_D {π : Type} {Rs : π → List RV} {side : π → Prop} {res : π → PyData} {x : Str} {st : Stmt} {N ps : List Str} {k : Nat} (F : FnAt K mg x st) (sc : FnScope N ps (defScope st)) (hm : ∀ p, MonoA (Rs p)) (hl : ∀ p, (Rs p).length = ps.length) (hn : ps.length ≤ N.length)
    (hb : ∀ (kV doc pm : Value) (an : Option Addr) (cdv ct : Value) (us : List Value), us.length = ps.length → bindArgs (PySem.W.fnOf x x (defArgs st) (defBody st) (defScope st) .none kV doc pm an cdv ct) ⟨us, []⟩ = pure (ps.zip us))
    (body : ∀ f cdv A outer s H σ S R E p, Room k (A.deeper (envOfC x (defScope st) s.heap.objs.size f cdv)) → Sg S [H] ((Rs p).map some ++ List.replicate (N.length - (Rs p).length) none) [] σ H → side p → (∀ v F', Dt F' v (res p) → R v F') → SW (cxD P w K mg base N x st f cdv A outer s H E) (endF S H R) (defBody st) σ H) :
    Cl P w K mg base x (k + 1) ps (spF (spD Rs side res)) := (cl_DF F sc hm hl hn body).cl hb
theorem fin_D {S S0 : List Addr} {Bs : List Hp} {Γ : Ga} {M : Ce} {σ : L2.St} {H H' : Hp} {R : RV} {d : PyData} {v : V} (g : Sg S (H :: Bs) Γ M σ H') (hS : ∀ b ∈ S0, b ∈ S) (r : Dt (hid S H') v d) (hR : ∀ v F', Dt F' v d → R v F') : Ex H H' ∧ R v (hid S0 H') :=
  ⟨g.ex H List.mem_cons_self, hR _ _ (r.mono (hid_more hS))⟩
end
section
variable {X : Cx} {S : List Addr} {σ : L2.St} {H : Hp} {e : Expr} {es : List Expr} {pos : Pos}
theorem r_callD {π : Type} {Rs : π → List RV} {side : π → Prop} {res : π → PyData} {d : PyData} {x : Str} {p' : Pos} {k : Nat} {ps : List Str} (C : Cl X.prog X.w X.K X.mg X.base x k ps (spF (spD Rs side res))) (hr : Room k X.A) {p : π} (hd : res p = d) (ha : PA X (e :: es) (tRA S σ H (Rs p))) (hs : side p)
    (hg : Gl X x := by rfl) (hdb : (x == ("__debug__" : Str)) = false := by decide) (he : starEach (e :: es) X.env = (false, eval e X.env) :: starEach es X.env := by rfl) (hpl : (backTo pos (starEach es X.env)).any (·.1) = false := by rfl) : PE X (.Call (.Name x p') (e :: es) [] pos) (tR S σ H (isD d)) :=
  r_call C hr ha (fun vs F h => ⟨p, h, hs, fun _ _ h => hd ▸ h⟩) hg hdb he hpl
end
end N34

set_option Elab.async false
set_option linter.all false
set_option maxRecDepth 100000
set_option maxHeartbeats 1000000
/-! further rules of the machine -/
namespace N34
open PySem PySem.Spec PyProof.Rows L2
section
variable {X : Cx}
/-- sum of a tuple of ints -/
theorem cr_sumT (hc : X.calm = true) : CallR X (.builtin "sum") (fun vs H Q => ∃ (a : Addr) (ns : List Int), vs = [V.ref a] ∧ SqT X.K H a (ns.map V.int) ∧ Q (.int ns.sum) H) := by
  intro pins s σ H vs us Q I r h
  obtain ⟨a, ns, rfl, hs, q⟩ := h
  obtain ⟨its, rv, hl, _⟩ := I.tuple hs
  rw [Vals.ref1 r]
  have hi := rv.ints
  obtain ⟨xs, e⟩ := hi.allInts.items
  have hn : numsOf (intItems xs).toList = ns := by rw [← e]; exact hi.numsOf
  rw [nums_intItems] at hn
  have hl' : s.heap.IsTuple a its.toArray := hl
  rw [e] at hl'
  refine PySem.W.ktm_sumG (I.ok.hd hc) hl' fun h' tk t' hk => ?_
  rw [preSum_eq, List.take_of_length_le (by simp), hn]
  exact ⟨.int _, H, I.kept hk, ⟨_, rfl⟩, q⟩

/-! ### (0,) * 1 -/
theorem tuple_mul1 (l : Addr) (items : Array Value) (n : Nat) (dd : Option Addr) (sl : Array (Option Value)) (u : Tok) :
    Meets (Builtin.«tuple.__mul__» ⟨[.ref l, .int 1 u], []⟩) (fun _ R s => s.heap.get? l = some { cls := .type "tuple", dict := dd, data := .seq items n, slots := sl } ∧
      R (.ok (.ret (Value.ref l))) s) :=
  .of_wp fun prog w A R s h => by
    obtain ⟨hp, g, d, tk, os⟩ := s
    obtain ⟨hl, h⟩ := h
    have f1 := AutoSeq1.idx_int
    wp_walk using wpAny_loadPart' hl
    repeat (first
      | (refine wpAny_ite_false (decide_eq_false (by decide)) ?_; wp_walk using wpAny_loadPart' hl)
      | (refine wpAny_ite_true (decide_eq_true (by simp)) ?_; wp_walk using wpAny_loadPart' hl))
    exact ⟨_, rfl, h⟩
theorem op_rep1 : OpR X (binaryOp .Mult) (fun x y H Q => ∃ l xs, x = .ref l ∧ y = .int 1 ∧ SqT X.K H l xs ∧ Q (.ref l) H) := by
  intro pins s σ H x y v u Q I rx ry h
  obtain ⟨l, xs, rfl, rfl, hT, q⟩ := h
  cases rx
  obtain ⟨t, rfl⟩ := ry
  obtain ⟨its, r, ⟨⟨cls, dd, data, sl⟩, ho, hc, n, hd⟩, hs⟩ := I.tuple hT
  simp only at hc hd
  subst hc hd
  refine wpAny_binaryOp_repeat_ref (T := "tuple") (U := "int") (by decide) ⟨_, ho, rfl⟩ (fun s' => typeIs_int s' 1 t) noFill_tuple_mul F.fills_int_mul F.slot_int_rmul repeat_tuple F.slot_int_index.lookup
    (call_meets F.slot_int_rmul (typeIs_int s 1 t) F.entry_int_rmul (F.args_int_rmul_2 _ _) (int_rmul_tuple 1 t l its.toArray n dd sl)
      ⟨ho, rfl, ⟨_, ho, rfl⟩, call_meets F.slot_tuple_mul ⟨_, ho, rfl⟩ F.entry_tuple_mul (F.args_tuple_mul_2 _ _) (tuple_mul1 l its.toArray n dd sl t) ⟨ho, ?_⟩⟩)
  exact ⟨.ref l, H, I, rfl, q⟩
end

/-! ### sorted: tuples of ints -/
abbrev vlt : List Int → List Int → Bool := HT.lexLt
def vle (a b : List Int) : Bool := !vlt b a
/-- sorted(..) of tuples of ints -/
def vsort (l : List (List Int)) : List (List Int) := l.mergeSort vle
theorem vlt_irrefl : ∀ a : List Int, vlt a a = false
  | [] => rfl
  | x :: a => by rw [vlt, HT.lexLt_cons, if_pos rfl]; exact vlt_irrefl a
theorem vlt_trans : ∀ {a b c : List Int}, vlt a b = true → vlt b c = true → vlt a c = true
  | [], [], _, h, _ => by cases h
  | [], _ :: _, [], _, h => by cases h
  | [], _ :: _, _ :: _, _, _ => rfl
  | _ :: _, [], _, h, _ => by cases h
  | _ :: _, _ :: _, [], _, h => by cases h
  | x :: a, y :: b, z :: c, h1, h2 => by
    rw [vlt, HT.lexLt_cons] at h1 h2 ⊢
    by_cases e1 : x = y
    · subst e1
      rw [if_pos rfl] at h1
      by_cases e2 : x = z
      · subst e2; rw [if_pos rfl] at h2 ⊢; exact vlt_trans h1 h2
      · rw [if_neg e2] at h2 ⊢; exact h2
    · rw [if_neg e1] at h1
      have l1 := of_decide_eq_true h1
      by_cases e2 : y = z
      · subst e2; rw [if_neg e1]; exact h1
      · rw [if_neg e2] at h2
        have l2 := of_decide_eq_true h2
        rw [if_neg (by omega)]; exact decide_eq_true (by omega)
theorem vlt_total : ∀ {a b : List Int}, vlt a b = false → vlt b a = false → a = b
  | [], [], _, _ => rfl
  | [], _ :: _, h, _ => by cases h
  | _ :: _, [], _, h => by cases h
  | x :: a, y :: b, h1, h2 => by
    rw [vlt, HT.lexLt_cons] at h1 h2
    by_cases e : x = y
    · subst e; rw [if_pos rfl] at h1 h2; rw [vlt_total h1 h2]
    · rw [if_neg e] at h1; rw [if_neg (Ne.symm e)] at h2
      have l1 := of_decide_eq_false h1; have l2 := of_decide_eq_false h2
      omega
theorem vlt_asymm {a b : List Int} (h : vlt a b = true) : vlt b a = false := by
  cases q : vlt b a with
  | false => rfl
  | true => have := vlt_trans h q; rw [vlt_irrefl] at this; cases this
theorem vle_refl (a : List Int) : vle a a = true := by unfold vle; rw [vlt_irrefl]; rfl
theorem vle_total (a b : List Int) : (vle a b || vle b a) = true := by
  unfold vle
  cases h : vlt b a with
  | false => rfl
  | true => rw [vlt_asymm h]; rfl
theorem vle_anti {a b : List Int} (h1 : vle a b = true) (h2 : vle b a = true) : a = b := by
  unfold vle at h1 h2
  exact vlt_total (by simpa using h2) (by simpa using h1)
theorem vle_trans (a b c : List Int) (h1 : vle a b = true) (h2 : vle b c = true) : vle a c = true := by
  unfold vle at *
  cases h : vlt c a with
  | false => rfl
  | true =>
    have n1 : vlt b a = false := by simpa using h1
    have n2 : vlt c b = false := by simpa using h2
    cases q : vlt a b with
    | true => rw [vlt_trans h q] at n2; cases n2
    | false => have e := vlt_total q n1; subst e; rw [h] at n2; cases n2
theorem vsort_perm (l : List (List Int)) : (vsort l).Perm l := List.mergeSort_perm _ _
theorem vsort_pw (l : List (List Int)) : (vsort l).Pairwise (fun a b => vle a b = true) := List.pairwise_mergeSort vle_trans vle_total l
theorem sorted_uniq : ∀ {l m : List (List Int)}, l.Perm m → l.Pairwise (fun a b => vle a b = true) → m.Pairwise (fun a b => vle a b = true) → l = m
  | [], m, p, _, _ => p.nil_eq
  | a :: l, [], p, _, _ => p.eq_nil
  | a :: l, b :: m, p, hl, hm => by
    have e : a = b := by
      obtain ⟨h1, _⟩ := List.pairwise_cons.mp hl
      obtain ⟨h2, _⟩ := List.pairwise_cons.mp hm
      have ab : vle b a = true := by
        rcases List.mem_cons.mp (p.subset List.mem_cons_self) with z | z
        · rw [z]; exact vle_refl _
        · exact h2 a z
      have ba : vle a b = true := by
        rcases List.mem_cons.mp (p.symm.subset List.mem_cons_self) with z | z
        · rw [z]; exact vle_refl _
        · exact h1 b z
      exact vle_anti ba ab
    subst e
    rw [sorted_uniq (List.Perm.cons_inv p) (List.pairwise_cons.mp hl).2 (List.pairwise_cons.mp hm).2]
theorem vsort_uniq {l m : List (List Int)} (p : l.Perm m) (h : l.Pairwise (fun a b => vle a b = true)) : l = vsort m := sorted_uniq (p.trans (vsort_perm m).symm) h (vsort_pw m)
open PyProof.Rows.G in
theorem tupItems_ints : ∀ {us : List Value} {ns : List Int}, IntsAre us ns → ∀ i, tupItems (fun _ => false) i us = some (ns.map Sum.inl)
  | _, _, .nil, i => rfl
  | _, _, .cons n t h, i => by
    show (if false = true then none else (tupItems (fun _ => false) (i + 1) _).map (Sum.inl n :: ·)) = _
    rw [if_neg Bool.false_ne_true, tupItems_ints h (i + 1)]; rfl
open PyProof.Rows.G in
theorem lex_ints : ∀ a b : List Int, PyProof.Rows.lexLt itemOrd (a.map Sum.inl) (b.map Sum.inl) = vlt a b
  | [], [] => rfl
  | [], _ :: _ => rfl
  | _ :: _, [] => rfl
  | x :: a, y :: b => by
    rw [List.map_cons, List.map_cons, lex_cons, lex_ints a b, vlt, HT.lexLt_cons]
    show (decide (x < y) || (!decide (y < x) && HT.lexLt a b)) = _
    by_cases e : x = y
    · subst e; rw [if_pos rfl, decide_eq_false (Int.lt_irrefl x)]; rfl
    · rw [if_neg e]
      by_cases l : x < y
      · rw [decide_eq_true l]; rfl
      · rw [decide_eq_false l, decide_eq_true (show y < x by omega)]; rfl

def addrOf : Value → Addr
  | .ref a => a
  | _ => 0
theorem refs_of : ∀ {as : List Addr} {us : List Value}, Vals (as.map V.ref) us → us = as.map Value.ref
  | [], _, .nil => rfl
  | a :: as, _, .cons r t => by
    cases r
    rw [refs_of t]; rfl
theorem vals_refs : ∀ as : List Addr, Vals (as.map V.ref) (as.map Value.ref)
  | [] => .nil
  | a :: as => .cons rfl (vals_refs as)
section
variable {X : Cx}
open PyProof.Rows.G in
theorem sort_facts {pins : List (Addr × Obj)} {σ : L2.St} {H : Hp} {s : Shared} (I : Inv X pins σ H s) {f : Addr → List Int} : ∀ {as : List Addr}, (∀ b ∈ as, H b = some (.tup ((f b).map V.int)) ∧ f b ≠ []) →
    (∃ fs, TupsOf s.heap (fun _ => false) (as.map Value.ref) fs) ∧ ∀ b ∈ as, tupKeyC s.heap (fun _ => false) (.ref b) = some ((f b).map Sum.inl)
  | [], _ => ⟨⟨[], .nil⟩, fun _ h => nomatch h⟩
  | a :: as, h => by
    obtain ⟨⟨fs, h1⟩, h2⟩ := sort_facts I (as := as) fun b hb => h b (List.mem_cons_of_mem _ hb)
    obtain ⟨ha, hne⟩ := h a List.mem_cons_self
    obtain ⟨its, rv, ⟨o, ho, hc, n, hd⟩, hz⟩ := I.tuple (SqT.of (K := X.K) ha)
    have hi := rv.ints
    have key : tupKeyC s.heap (fun _ => false) (.ref a) = some ((f a).map Sum.inl) := by
      unfold tupKeyC
      have e1 : isTupObj s.heap (.ref a) = true := by
        unfold isTupObj
        simp only [ho, hc]
        rfl
      rw [if_pos e1]
      simp only [tupKey, ho, hd]
      exact tupItems_ints hi 0
    refine ⟨?_, fun b hb => ?_⟩
    · generalize hn : f a = ns at hi hne
      cases hi with
      | nil => exact absurd rfl hne
      | cons k t r =>
        exact ⟨_ :: fs, .cons ⟨a, o, _, n, rfl, ho, hc, hd, rfl, fun _ => ⟨_, _, rfl⟩, fun z => by cases z⟩ h1⟩
    · rcases List.mem_cons.mp hb with e | hb
      · rw [e]; exact key
      · exact h2 b hb
open PyProof.Rows.G in
/-- what the sort leaves -/
theorem sort_out {h : Heap} {f : Addr → List Int} {as : List Addr} (hk : ∀ b ∈ as, tupKeyC h (fun _ => false) (.ref b) = some ((f b).map Sum.inl)) {arr : Array Keyed} (hp : arr.Perm (pairsOf (as.map Value.ref)))
    (hs : SortedToK (tupKindC h fun _ => false) arr (pairsOf (as.map Value.ref)).size) : ∃ bs : List Addr, (arr.map (·.2)).toList = bs.map Value.ref ∧ bs.Perm as ∧ (bs.map f).Pairwise (fun x y => vle x y = true) := by
  have hp' : arr.toList.Perm ((as.map Value.ref).zip (as.map Value.ref)) := by rw [← pairsOf_toList]; exact hp.toList
  have hz : (as.map Value.ref).zip (as.map Value.ref) = as.map fun a => (Value.ref a, Value.ref a) := by
    rw [List.zip_map']
  rw [hz] at hp'
  have hmem : ∀ p ∈ arr.toList, ∃ a ∈ as, p = (Value.ref a, Value.ref a) := fun p h => by
    obtain ⟨a, ha, e⟩ := List.mem_map.mp (hp'.subset h)
    exact ⟨a, ha, e.symm⟩
  have hsz : (pairsOf (as.map Value.ref)).size = arr.size := by
    have := hp.toList.length_eq
    simpa using this.symm
  rw [hsz] at hs
  have hko : KeysOf (tupKindC h fun _ => false) arr := fun p hpm => by
    obtain ⟨a, ha, rfl⟩ := hmem p hpm
    exact ⟨_, hk a ha⟩
  have pw := keyLe_of_sorted hko hs
  refine ⟨arr.toList.map fun p => addrOf p.2, ?_, ?_, ?_⟩
  · rw [Array.toList_map, List.map_map]
    refine List.map_congr_left fun p hpm => ?_
    obtain ⟨a, ha, rfl⟩ := hmem p hpm
    rfl
  · have := hp'.map fun p => addrOf p.2
    rw [List.map_map] at this
    have e : as.map ((fun p : Value × Value => addrOf p.2) ∘ fun a => (Value.ref a, Value.ref a)) = as := by
      rw [show ((fun p : Value × Value => addrOf p.2) ∘ fun a => (Value.ref a, Value.ref a)) = id from rfl, List.map_id]
    rw [e] at this
    exact this
  · rw [List.map_map, List.pairwise_map]
    refine List.Pairwise.imp_of_mem (fun {p q} hpm hqm r => ?_) pw
    obtain ⟨a, ha, rfl⟩ := hmem p hpm
    obtain ⟨b, hb, rfl⟩ := hmem q hqm
    obtain ⟨c, d, k1, k2, k3⟩ := r
    have e1 : (f a).map Sum.inl = c := Option.some.inj ((hk a ha).symm.trans k1)
    have e2 : (f b).map Sum.inl = d := Option.some.inj ((hk b hb).symm.trans k2)
    subst e1 e2
    have k3' : PyProof.Rows.lexLt itemOrd ((f b).map Sum.inl) ((f a).map Sum.inl) = false := k3
    rw [lex_ints] at k3'
    show (!vlt (f b) (f a)) = true
    rw [k3']; rfl
open PyProof.Rows.G in
theorem cr_sortT : CallR X (.builtin "sorted") (fun vs H Q => ∃ (a : Addr) (as : List Addr) (f : Addr → List Int), vs = [.ref a] ∧ SqL X.K H a (as.map V.ref) ∧ (∀ b ∈ as, H b = some (.tup ((f b).map V.int)) ∧ f b ≠ []) ∧
    ∀ (bs : List Addr) (p : Addr), bs.Perm as → (bs.map f).Pairwise (fun x y => vle x y = true) → H p = none → Q (.ref p) (upd H p (.lst (bs.map V.ref)))) := by
  intro pins s σ H vs us Q I r h
  obtain ⟨a, as, f, rfl, hs, hf, q⟩ := h
  obtain ⟨its, rv, hl, hz⟩ := I.list hs
  rw [Vals.ref1 r]
  have e := refs_of rv
  subst e
  obtain ⟨⟨fs, ht⟩, hk⟩ := sort_facts I hf
  rw [List.length_map] at hz
  refine sorted_tups hl.isList ht (fun v hv => ?_) (by rw [List.length_map]; exact hz) fun st' h1 h2 _ => ?_
  · obtain ⟨b, hb, rfl⟩ := List.mem_map.mp hv
    exact ⟨_, hk b hb⟩
  · obtain ⟨bs, k1, k2, k3⟩ := sort_out hk h1 h2
    obtain ⟨ep, he'⟩ := PyProof.Rows.sortedAll_at s.heap (as.map Value.ref) ((arrOf st').map (·.2))
    have hlen : (bs.map V.ref).length ≤ sizeLine := by rw [List.length_map, k2.length_eq]; exact hz
    refine ⟨.ref _, upd H (s.heap.objs.size + 1) (.lst (bs.map V.ref)), I.laid (t' := s.toks) (fun _ _ => PyProof.Rows.sortedAll_old) (Nat.le_succ _) ⟨hlen, bs.map Value.ref, ep, vals_refs bs, ?_⟩, rfl, q bs _ k2 k3 (I.hok.fresh (Nat.le_succ _))⟩
    rw [← k1, Array.toArray_toList]
    exact he'
/-- the keys of a dict -/
theorem dict_keys_as {H : Hp} : ∀ {kvs : List (List Key × V)} {xs : List (List Key × Addr × Value)}, KT H kvs xs → xs.map (·.1) = kvs.map (·.1) ∧ ∀ x ∈ xs, H x.2.1 = some (.tup (x.1.map kV))
  | _, _, .nil => ⟨rfl, fun _ h => nomatch h⟩
  | _, _, .cons r t => by
    obtain ⟨h1, h2⟩ := dict_keys_as t
    exact ⟨by rw [List.map_cons, List.map_cons, h1, r.1], fun x hx => by
      rcases List.mem_cons.mp hx with e | hx
      · subst e
        have q := r.2.1
        rw [r.1] at q
        exact q
      · exact h2 x hx⟩
end
end N34

set_option Elab.async false
set_option linter.all false
set_option maxRecDepth 100000
set_option maxHeartbeats 1000000
/-! sorted of a dict -/
namespace N34
open PySem PySem.Spec PyProof.Rows L2
section
variable {X : Cx}
theorem list_refs : ∀ {us : List Value} {as : List Addr}, us.length = as.length → (∀ (j : Nat) (v : Value), us[j]? = some v → ∃ a, as[j]? = some a ∧ v = Value.ref a) → us = as.map Value.ref
  | [], [], _, _ => rfl
  | u :: us, a :: as, hl, h => by
    obtain ⟨b, e1, e2⟩ := h 0 u rfl
    have e1' : a = b := Option.some.inj e1
    subst e1' e2
    rw [List.map_cons, ← list_refs (by simpa using hl) fun j v e => by simpa using h (j + 1) v (by simpa using e)]
  | [], _ :: _, hl, _ => by simp at hl
  | _ :: _, [], hl, _ => by simp at hl
/-- a tuple's ints -/
def unI : V → Int
  | .int i => i
  | _ => 0
def rdT (H : Hp) (a : Addr) : List Int := match H a with
  | some (.tup xs) => xs.map unI
  | _ => []
theorem unI_map (ns : List Int) : (ns.map V.int).map unI = ns := by
  rw [List.map_map]; exact List.map_id _
theorem rdT_of {H : Hp} {a : Addr} {ns : List Int} (h : H a = some (.tup (ns.map V.int))) : rdT H a = ns := by
  unfold rdT; rw [h]; exact unI_map ns
open PyProof.Rows.G in
theorem cr_sortD (hcalm : X.calm = true) : CallR X (.builtin "sorted") (fun vs H Q => ∃ (a : Addr) (kvs : List (List Key × V)) (ks : List (List Int)), vs = [.ref a] ∧ H a = some (.dT kvs) ∧ kvs.map (·.1) = ks.map (fun k => k.map Sum.inl) ∧ (∀ k ∈ ks, k ≠ []) ∧
    ∀ (bs : List Addr) (p : Addr), (bs.map (rdT H)).Perm ks → (bs.map (rdT H)).Pairwise (fun x y => vle x y = true) → (∀ b ∈ bs, H b = some (.tup ((rdT H b).map V.int))) → H p = none → Q (.ref p) (upd H p (.lst (bs.map V.ref)))) := by
  intro pins s σ H vs us Q I r h
  obtain ⟨a, kvs, ks, rfl, hd, hks, hne, q⟩ := h
  obtain ⟨u, eu, rx⟩ := vals1 r
  subst eu
  cases rx
  obtain ⟨z, lo, xs, rel, dd⟩ := dt_of I.hok hd
  obtain ⟨es, ep, raw, hsz, hes⟩ := dd.raw
  obtain ⟨hx1, hx2⟩ := dict_keys_as rel
  have hxk : xs.map (·.1) = ks.map (fun k => k.map Sum.inl) := hx1.trans hks
  have hlx : xs.length = ks.length := by
    have e := congrArg List.length hxk
    rw [List.length_map, List.length_map] at e; exact e
  have hlk : xs.length = kvs.length := by
    have e := congrArg List.length hx1
    rw [List.length_map, List.length_map] at e; exact e
  -- the keys' addresses
  have hA : ∀ x ∈ xs, ∃ k ∈ ks, x.1 = k.map Sum.inl := fun x hx => by
    have : x.1 ∈ ks.map (fun k => k.map Sum.inl) := by rw [← hxk]; exact List.mem_map_of_mem hx
    obtain ⟨k, hk, e⟩ := List.mem_map.mp this
    exact ⟨k, hk, e.symm⟩
  have kvI : ∀ k : List Int, (k.map (Sum.inl : Int → Key)).map kV = k.map V.int := fun k => by rw [List.map_map]; rfl
  have hT : ∀ x ∈ xs, H x.2.1 = some (.tup ((rdT H x.2.1).map V.int)) ∧ rdT H x.2.1 ≠ [] ∧ x.1 = (rdT H x.2.1).map Sum.inl := fun x hx => by
    obtain ⟨k, hk, e⟩ := hA x hx
    have h1 := hx2 x hx
    rw [e, kvI] at h1
    rw [rdT_of h1]
    exact ⟨h1, hne k hk, e⟩
  have hperm : (xs.map fun x => rdT H x.2.1) = ks := by
    have inj : ∀ {l m : List (List Int)}, l.map (fun k => k.map (Sum.inl : Int → Key)) = m.map (fun k => k.map Sum.inl) → l = m := by
      intro l
      induction l with
      | nil => intro m h; cases m with
        | nil => rfl
        | cons b m => cases h
      | cons a l ih => intro m h; cases m with
        | nil => cases h
        | cons b m =>
          rw [List.map_cons, List.map_cons] at h
          injection h with h1 h2
          have e := congrArg (List.map kV) h1
          rw [kvI, kvI] at e
          have e2 := congrArg (List.map unI) e
          rw [unI_map, unI_map] at e2
          rw [e2, ih h2]
    refine inj ?_
    rw [← hxk, List.map_map]
    exact List.map_congr_left fun x hx => (hT x hx).2.2.symm
  have h16 : es.size ≤ sizeLine := by rw [hsz, hlk]; exact z
  refine Calls.call_function_entry PyProof.Rows.kind_sorted PyProof.Rows.plain_sorted PyProof.Rows.entry_sorted (PyProof.Rows.args_sorted1 _) ?_
  unfold Builtin.«sorted»
  refine wpAny_bind (m := checkCount "sorted" 1 1 _) (wpAny_pure ?_)
  refine wpAny_bind (PySem.W.kdu_collect (A := X.A.in1) (PySem.KdlSrc.rawDict (es := es) (ep := ep) lo) (I.ok.hd hcalm) raw h16 fun h' tk acc hk hacc => ?_)
  have hal : acc.toList = (xs.map fun x => x.2.1).map Value.ref := list_refs (by rw [Array.length_toList, hacc.1, List.length_map, hsz]) fun j v e => by
    obtain ⟨hi, e1⟩ := hacc.2 j v (by rw [← Array.getElem?_toList]; exact e)
    obtain ⟨y, e2, e3, _⟩ := hes j hi
    exact ⟨y.2.1, by rw [List.getElem?_map, e2]; rfl, by rw [e1, e3]⟩
  have I1 : Inv X pins σ H { s with heap := h', toks := tk } := I.kept hk
  have hlen0 : acc.toList.length ≤ sizeLine := by rw [hal, List.length_map, List.length_map, hlk]; exact z
  refine wpAny_bind (wpAny_newList ?_ hlen0)
  have hoL : (h'.push (seqObj "list" acc.toList.toArray 0)).get? h'.objs.size = some (seqObj "list" acc.toList.toArray 0) := Heap.get?_push_size _ rfl
  show wpAny _ _ _ _ _ { s with heap := h'.push (seqObj "list" acc.toList.toArray 0), toks := tk }
  have I2 : Inv X pins σ H { s with heap := h'.push (seqObj "list" acc.toList.toArray 0), toks := tk } := I1.kept fun b u e => Heap.get?_push_of_some _ e
  obtain ⟨⟨fs, ht⟩, hkk⟩ := sort_facts I2 (f := rdT H) (as := xs.map fun x => x.2.1) fun b hb => by
    obtain ⟨x, hx, rfl⟩ := List.mem_map.mp hb
    exact ⟨(hT x hx).1, (hT x hx).2.1⟩
  refine wpAny_bind (wpAny_holding (wpAny_call_entry PyProof.Rows.slot_list_sort ⟨_, hoL, rfl⟩ PyProof.Rows.entry_list_sort
    (list_sort_tups (s := { s with heap := h'.push (seqObj "list" acc.toList.toArray 0), toks := tk }) (fs := fs) hoL (by rw [← hal] at ht; exact ht) (fun v hv => ?_) hlen0 fun st' h1 h2 _ => ⟨_, rfl, ?_⟩) (PyProof.Rows.args_list_sort _)))
  · rw [hal] at hv
    obtain ⟨b, hb, rfl⟩ := List.mem_map.mp hv
    exact ⟨_, hkk b hb⟩
  · rw [hal] at h1 h2 hkk
    obtain ⟨bs, k1, k2, k3⟩ := sort_out hkk h1 h2
    obtain ⟨e', he'⟩ := PyProof.Rows.sortedHeap_at (vs := acc.toList) (out := (arrOf st').map (·.2)) hoL
    have hlen : (bs.map V.ref).length ≤ sizeLine := by
      rw [List.length_map, k2.length_eq, List.length_map, hlk]; exact z
    refine wpAny_pure ⟨_, rfl, .ref h'.objs.size, upd H h'.objs.size (.lst (bs.map V.ref)), I1.laid (t' := tk) (fun b u e => ?_) (Nat.le_refl _)
      (show ObjOk X.prog X.w _ _ _ (.lst (bs.map V.ref)) from ⟨hlen, bs.map Value.ref, e', vals_refs bs, ?_⟩), rfl, q bs _ ?_ k3 (fun b hb => ?_) (I1.hok.fresh (Nat.le_refl _))⟩
    · have hb : b < h'.objs.size := Heap.lt_size e
      rw [PyProof.Rows.sortedHeap_old (Nat.ne_of_lt hb) (by rw [size_push']; exact Nat.lt_succ_of_lt hb)]
      exact Heap.get?_push_of_some _ e
    · rw [← k1, Array.toArray_toList]; exact he'
    · have := k2.map (rdT H)
      rw [List.map_map] at this
      have e : (xs.map ((rdT H) ∘ fun x => x.2.1)) = ks := hperm
      rw [e] at this; exact this
    · obtain ⟨x, hx, rfl⟩ := List.mem_map.mp (k2.subset hb)
      exact (hT x hx).1
end
end N34

set_option Elab.async false
set_option linter.all false
set_option maxRecDepth 100000
set_option maxHeartbeats 1000000
/-! enumerate of a tuple -/
namespace N34
open PySem PySem.Spec PyProof.Rows L2
open AutoSeq1 (wpAny_loadPart') in
theorem meets_enumerate_newT (l : Addr) (items : Array Value) :
    Meets (Builtin.«enumerate.__new__» ⟨[.type "enumerate", .ref l], []⟩) (fun _ R s => s.heap.IsTuple l items ∧
      R (.ok (.ret (.ref (s.heap.push { cls := .type "tuple_iterator", data := .fields #[.ref l, .int 0 0] }).objs.size)))
        { s with heap := (s.heap.push { cls := .type "tuple_iterator", data := .fields #[.ref l, .int 0 0] }).push { cls := .type "enumerate", data := .fields #[.none, .bool false, .ref s.heap.objs.size, rawInt 0, .none, .none] } }) :=
  .of_wp fun prog w A R s h => by
    obtain ⟨hp, g, d, tk, os⟩ := s; obtain ⟨hl, h⟩ := h
    have hsub := sub_enumerate
    have hL : Heap.IsTuple (Shared.heap ⟨hp, g, d, tk, os⟩) l items := hl
    wp_walk
    refine wpAny_stack_any fun st => wpAny_pure ?_
    split
    · rename_i c _ _ _ _ _
      cases (c == Value.type "enumerate")
      · wp_walk using wpAny_pyIter_tuple hL
        exact ⟨_, rfl, h⟩
      · wp_walk using wpAny_pyIter_tuple hL
        exact ⟨_, rfl, h⟩
    · wp_walk using wpAny_pyIter_tuple hL
      exact ⟨_, rfl, h⟩
theorem call_enumerate_tuple {prog : Program} {w : World} {A : Around} {E : Value → Shared → Prop} {s : Shared} {l : Addr} {items : Array Value} {Q : Value → Shared → Prop} (hL : s.heap.IsTuple l items)
    (h : ∀ h', IsEnum h' (s.heap.objs.size + 1) s.heap.objs.size 0 .none → h'.IsTupleIter s.heap.objs.size l 0 → h'.objs.size = s.heap.objs.size + 2 →
      (∀ b o, s.heap.get? b = some o → h'.get? b = some o) → Q (.ref (s.heap.objs.size + 1)) { s with heap := h' }) :
    wpAny (model prog w) A (call (.type "enumerate") [.ref l]) Q E s := by
  refine callType_new F.called_enumerate (by decide) (F.typeCall_enumerate_1 _) (F.newCall_enumerate_1 _) (fun obj => F.args_object_init_2 obj _) F.entry_enumerate_new
    (meets_enumerate_newT l items) ⟨hL, ?_⟩
  have hz : (s.heap.push { cls := .type "tuple_iterator", data := .fields #[.ref l, .int 0 0] }).objs.size = s.heap.objs.size + 1 := Heap.size_push ..
  show _ ∧ _
  rw [hz]
  have he : IsEnum ((s.heap.push { cls := .type "tuple_iterator", data := .fields #[.ref l, .int 0 0] }).push
      { cls := .type "enumerate", data := .fields #[.none, .bool false, .ref s.heap.objs.size, rawInt 0, .none, .none] }) (s.heap.objs.size + 1) s.heap.objs.size 0 .none := by
    have := Heap.get?_push_size (s.heap.push { cls := .type "tuple_iterator", data := .fields #[.ref l, .int 0 0] })
      (o := { cls := .type "enumerate", data := .fields #[.none, .bool false, .ref s.heap.objs.size, rawInt 0, .none, .none] }) rfl
    rw [hz] at this; exact this
  refine ⟨⟨_, he, rfl⟩, h _ he ⟨_, Heap.get?_push_of_some _ (Heap.get?_push_size _ rfl), rfl, rfl⟩ (by rw [Heap.size_push, hz]) fun b o x => Heap.get?_push_of_some _ (Heap.get?_push_of_some _ x)⟩
theorem wpAny_letOwned_enumT {prog : Program} {w : World} {A : Around} {E : Value → Shared → Prop} {s : Shared} {e it a : Addr} {i : Nat} {items : Array Value} {u old : Value} {Q : Option Value → Shared → Prop}
    (he : IsEnum s.heap e it i old) (hit : s.heap.IsTupleIter it a i) (hl : s.heap.IsTuple a items) (hu : items[i]? = some u) (hlt : i < items.size) (hne : e ≠ it) (hai : a ≠ it) (hae : a ≠ e) (hh : A.handled = none)
    (hQ : ∀ h' tk, IsEnumOut h' e it ((i : Int) + 1) u s.heap.objs.size → h'.IsTupleIter it a (i + 1) →
      h'.get? s.heap.objs.size = some { cls := .type "tuple", data := .seq #[.int i tk, u] } →
      (∀ b o, b ≠ e → b ≠ it → s.heap.get? b = some o → h'.get? b = some o) → Q (some (.ref s.heap.objs.size)) { s with heap := h', toks := tk + 1 }) :
    wpAny (model prog w) A (pyNext (.ref e)) Q E s :=
  wpAny_pyNext_enum_itemD (Draws.tuple (show A.in1.handled = none from hh) it a hai items) he ⟨hit, hl⟩ hlt hne (by simp [hne, Ne.symm hae]) fun x h' tk hx h1 h2 h3 _ h5 => by
    have e1 : u = x := Option.some.inj (hu.symm.trans hx)
    subst e1
    exact hQ h' tk h1 h2.1 h3 h5
/-- the tuple at a as it stands, each item in a new pair -/
def IteT (K : PySem.W.Frag) (a : Addr) : It :=
  ⟨fun i H => ∃ (xs : List V) (x : V), SqT K H a xs ∧ xs[i]? = some x, fun i H v H' => ∃ T x, v = .ref T ∧ H T = none ∧ H' = upd H T (.tup [.int (i : Nat), x]) ∧ ∀ xs, SqT K H a xs → xs[i]? = some x, fun i H => ∃ xs : List V, SqT K H a xs ∧ xs.length = i⟩
theorem turn_enumT {P : Program} {w : World} {K : PySem.W.Frag} {elts : List Expr} {kk : Nat} {tpos : Pos} (a e it : Addr) (hai : a ≠ it) (hae : a ≠ e) :
    Turn P w K (.Tuple elts kk tpos) (IteT K a) [e, it] e (fun i h => (∃ old, IsEnum h e it ((i : Nat) : Int) old) ∧ h.IsTupleIter it a i ∧ e ≠ it) where
  mem := by simp
  obj := fun i h st b hb => by
    obtain ⟨⟨old, he⟩, ⟨o, ho, hc, hd⟩, _⟩ := st
    have e' : b = e ∨ b = it := by simpa using hb
    rcases e' with z | z
    · rw [z]; exact ⟨_, he, fun v q => nomatch q⟩
    · rw [z]; exact ⟨o, ho, fun v q => by rw [hd] at q; cases q⟩
  keep := fun i h h' st k => let ⟨⟨old, he⟩, hi, hne⟩ := st; ⟨⟨old, k e (by simp) _ he⟩, hi.at fun o q => k it (by simp) o q, hne⟩
  item := by
    intro X hP hw hK hc i pins s σ H E I hf st hg
    subst hP hw hK
    obtain ⟨⟨old, he⟩, hit, hne⟩ := st
    obtain ⟨xs, x, hq, hx⟩ := hg
    obtain ⟨its, rv, p, hz⟩ := I.tuple hq
    obtain ⟨u, hu, ru⟩ := rv.get hx
    have hel : e < s.heap.objs.size := Heap.lt_size he
    have hil : it < s.heap.objs.size := by obtain ⟨_, q, _⟩ := hit; exact Heap.lt_size q
    have p' : s.heap.IsTuple a its.toArray := p
    have hlt : i < its.toArray.size := by
      have := (List.getElem?_eq_some_iff.mp hu).1
      simpa using this
    refine wpAny_letOwned_enumT he hit p' (u := u) (by simpa using hu) hlt hne hai hae (I.ok.hd hc) fun h' tk ho hit' hT hk => ?_
    refine ⟨_, rfl, wpAny_letOwnedTupleGo_enum (s := { s with heap := h', toks := tk + 1 }) ho fun h'' he' sb => ?_⟩
    have hT2 : h''.get? s.heap.objs.size = some { cls := .type "tuple", data := .seq #[.int i tk, u] } := (sb.2 _ (Nat.ne_of_gt hel)).trans hT
    have new : ObjOk X.prog X.w (upd H s.heap.objs.size (.tup [.int (i : Nat), x])) h'' s.heap.objs.size (.tup [.int (i : Nat), x]) :=
      ⟨by show 2 ≤ sizeLine; decide, [.int i tk, u], .cons ⟨_, rfl⟩ (.cons ru .nil), ⟨_, hT2, rfl, _, rfl⟩⟩
    have I1 : Inv X pins σ (upd H s.heap.objs.size (.tup [.int (i : Nat), x])) { s with heap := h'', toks := tk + 1 } :=
      I.turnedNew (ch := [e, it]) (fun b ob hb q => (sb.2 b (fun z => hb (by simp [z]))).trans (hk b ob (fun z => hb (by simp [z])) (fun z => hb (by simp [z])) q)) hf (Nat.le_refl _) new
    refine ⟨.ref s.heap.objs.size, _, I1, rfl, ⟨_, x, rfl, I.hok.fresh (Nat.le_refl _), rfl, fun ys hy => by rw [I.tuple_inj hy hq]; exact hx⟩, ⟨⟨u, ?_⟩, hit'.at fun o q => (sb.2 it (Ne.symm hne)).trans q, hne⟩, fun b hb => ?_⟩
    · have e1 : ((i + 1 : Nat) : Int) = (i : Int) + 1 := by omega
      rw [e1]; exact he'
    · have hb' : b < s.heap.objs.size := by
        have e' : b = e ∨ b = it := by simpa using hb
        rcases e' with z | z
        · rw [z]; exact hel
        · rw [z]; exact hil
      rw [upd_ne (Nat.ne_of_lt hb')]
      exact (hf b hb).1
  done := by
    intro X hP hw hK hc i pins s σ H E I hf st hg
    subst hP hw hK
    obtain ⟨⟨old, he⟩, hit, hne⟩ := st
    obtain ⟨xs, hq, hx⟩ := hg
    obtain ⟨its, rv, p, hz⟩ := I.tuple hq
    obtain ⟨f0, f1, f2, f3, f4, f5⟩ := hf it (by simp)
    have hl := rv.length
    have p' : s.heap.IsTuple a its.toArray := p
    have hn : its.toArray.size = i := by simp; omega
    exact wpAny_pyNext_enum_endD (Draws.tuple (show X.A.in1.handled = none from I.ok.hd hc) it a hai its.toArray) he ⟨by rw [hn]; exact hit, p'⟩ fun h' eb => ⟨rfl, I.turned (t' := s.toks) (fun b o hb q => eb b o hb q) f0 f1 f3 f4 f5⟩
  self := fun A i s Q E st h => let ⟨⟨_, he⟩, _⟩ := st; wpAny_pyIter_enum he h

def iEnumT (K : PySem.W.Frag) (ta : TA) : TI := fun σ H R => ta σ H fun vs H1 => ∃ a xs, vs = [.ref a] ∧ SqT K H1 a xs ∧ R (IteT K a) H1
theorem pi_enumT {X : Cx} {e : Expr} {ta : TA} {p pos tpos : Pos} {elts : List Expr} {kk : Nat} (hg : Gl X "enumerate") (hm : X.mg "enumerate" = none) (ha : PA X [e] ta) (hs : starEach [e] X.env = [(false, eval e X.env)] := by rfl) :
    PI X (.Tuple elts kk tpos) (.Call (.Name "enumerate" p) [e] [] pos) (iEnumT X.K ta) := by
  refine ⟨fun pins s σ H R I h => ?_⟩
  refine Call_ (ld_blt I hg hm boot_enumerate (PyProof.Rows.callWith_type1 (thn (ha.run pos pins s σ H _ I h) fun us s1 ⟨vs, H1, I1, r1, q1⟩ => ?_) hs rfl))
  obtain ⟨a, xs, ex, hq, q⟩ := q1
  subst ex
  cases r1 with
  | cons r rr =>
    cases rr
    cases r
    obtain ⟨its, rv, p', hz⟩ := I1.tuple hq
    have p2 : s1.heap.IsTuple a its.toArray := p'
    refine call_enumerate_tuple p2 fun h' he hit hsz hk => wpAny_pyIter_enum he ?_
    have I2 : Inv X pins σ H1 { s1 with heap := h' } := I1.kept (t' := s1.toks) hk
    have hlt : a < s1.heap.objs.size := p'.lt
    refine ⟨s1.heap.objs.size + 1, [s1.heap.objs.size + 1, s1.heap.objs.size], _, _, H1, rfl, I2, turn_enumT a (s1.heap.objs.size + 1) s1.heap.objs.size (Nat.ne_of_lt hlt) (Nat.ne_of_lt (Nat.lt_succ_of_lt hlt)), ⟨⟨.none, he⟩, hit, Nat.succ_ne_self _⟩, fun b hb => ?_, q⟩
    have e' : b = s1.heap.objs.size + 1 ∨ b = s1.heap.objs.size := by simpa using hb
    have hle : s1.heap.objs.size ≤ b := by
      rcases e' with z | z
      · rw [z]; exact Nat.le_add_right _ _
      · rw [z]; exact Nat.le_refl _
    exact I1.fpOk hle (I1.hok.fresh hle)
section
variable {X : Cx} {S : List Addr} {σ0 : L2.St} {H0 : Hp} {a : Expr} {pos : Pos} {α : Type}
theorem w_enumT {xs : List α} {ea : α → PyData} {p tpos : Pos} {elts : List Expr} {kk : Nat} (hm : X.mg "enumerate" = none) (ha : PE X a (tR S σ0 H0 (isD (.tuple (xs.map ea)))))
    (hg : Gl X "enumerate" := by rfl) (hs : starEach [a] X.env = [(false, eval a X.env)] := by rfl) :
    PI X (.Tuple elts kk tpos) (.Call (.Name "enumerate" p) [a] [] pos) (tW S σ0 H0 xs.zipIdx fun q => pairR (isD (.int (q.2 : Nat))) (isD (ea q.1))) :=
  PI_imp (pi_enumT hg hm (ra_1 ha hs) hs) fun σ H Q ⟨q, ex, al, k⟩ => ⟨q, ex, al, fun vs H1 e1 r => by
    obtain ⟨u, us, rfl, r0, r2⟩ := r
    cases r2
    obtain ⟨p, vs, rfl, h3, h4⟩ := r0.tupI
    have hl : vs.length = xs.length := by rw [h4.length, List.length_map]
    have g1 : ∀ S' H, Ex (hid S H1) (hid S' H) → SqT X.K H p vs := fun S' H e => SqT.of (e.hidd h3)
    refine ⟨p, vs, rfl, SqT.of (hid_le _ _ h3), k _ _ e1 ⟨fun i S' H hi e _ => ?_, fun S' H e _ => ?_, fun i z S' H x H' hi e al' y => ?_⟩⟩
    · rw [List.length_zipIdx] at hi
      exact ⟨vs, vs[i]'(by omega), g1 S' H e, by simp [hl, hi]⟩
    · exact ⟨vs, g1 S' H e, by rw [List.length_zipIdx]; omega⟩
    · obtain ⟨T, x1, rfl, n1, rfl, k1⟩ := y
      have q1 := k1 vs (g1 S' H e)
      rw [List.getElem?_zipIdx] at hi
      cases c : xs[i]? with
      | none => rw [c] at hi; cases hi
      | some w =>
        rw [c] at hi
        have hz : (w, 0 + i) = z := Option.some.inj hi
        obtain ⟨v1, j1, d1⟩ := h4.get (i := i) (d := ea w) (by rw [List.getElem?_map, c]; rfl)
        rw [q1] at j1
        cases j1
        subst hz
        exact ⟨Ex.new n1, T, _, x1, rfl, hid_new al' n1, by rw [Nat.zero_add]; exact .int _, (d1.mono e).mono (hid_ex (Ex.new n1))⟩⟩
end
end N34

set_option Elab.async false
set_option linter.all false
set_option maxRecDepth 100000
set_option maxHeartbeats 1000000
/-! for k, v in d.items(), the keys tuples -/
namespace N34
open PySem PySem.Spec PyProof.Rows L2
theorem Inv.frzT2 {X : Cx} {pins : List (Addr × Obj)} {σ : L2.St} {H : Hp} {s : Shared} {d : Addr} {o : Obj} {kvs : List (List Key × V)} (I : Inv X pins σ H s) (h : H d = some (.frz o (.dT kvs))) :
    (d == sysModules) = false ∧ ∃ (es : Array DictEntry) (ep : Nat), o.data = .dict es ep ∧ s.heap.DictRaw d es ep ∧ es.size = kvs.length ∧
      ∀ (i : Nat) (k : List Key) (v : V), kvs[i]? = some (k, v) → ∃ (en : DictEntry) (q : Addr), es[i]? = some en ∧ en.key = .ref q ∧ H q = some (.tup (k.map kV)) ∧ RelV v en.val := by
  obtain ⟨hd, z, hs, xs, pr, o', es, ep, ho, hx, hdt, he, _⟩ := I.hok d _ h
  rw [hd] at ho
  cases ho
  refine ⟨hs, es, ep, hdt, ⟨_, hd, hx, hdt⟩, ?_, fun i k v e => ?_⟩
  · have l1 : es.size = xs.length := size_of_entries he
    have l2 : kvs.length = xs.length := Paired.length pr
    omega
  · obtain ⟨b, hb, e1, e2, e3⟩ := paired_get pr e
    have q := entry_at he i
    rw [hb] at q
    exact ⟨_, b.2.1, q, rfl, e2, e3⟩
/-- the pairs of the locked dict at d, each a new tuple of the key's own tuple and the value -/
def Itit (d : Addr) (o : Obj) (kvs : List (List Key × V)) : It :=
  ⟨fun i H => H d = some (.frz o (.dT kvs)) ∧ i < kvs.length, fun i H x H' => ∃ T k v q, kvs[i]? = some (k, v) ∧ x = .ref T ∧ H T = none ∧ H q = some (.tup (k.map kV)) ∧ H' = upd H T (.tup [.ref q, v]), fun i H => H d = some (.frz o (.dT kvs)) ∧ kvs.length ≤ i⟩
theorem turn_itemsT {P : Program} {w : World} {K : PySem.W.Frag} {d : Addr} {o : Obj} {es : Array DictEntry} {ep : Nat} {kvs : List (List Key × V)} {elts : List Expr} {kk : Nat} {tpos : Pos} (it : Addr) (hod : o.data = .dict es ep) :
    Turn P w K (.Tuple elts kk tpos) (Itit d o kvs) [it] it (fun i h => ∃ ok ov, IsItemIter h it d i kvs.length ep ok ov) where
  mem := by simp
  obj := fun i h st b hb => by
    have e : b = it := by simpa using hb
    subst e
    obtain ⟨ok, ov, e⟩ := st
    exact ⟨_, e, fun v z => nomatch z⟩
  keep := fun i h h' st k => let ⟨ok, ov, e⟩ := st; ⟨ok, ov, k it (by simp) _ e⟩
  item := by
    intro X hP hw hK hc i pins s σ H E I hf st hg
    subst hP hw hK
    obtain ⟨hd, hi⟩ := hg
    obtain ⟨hs, es', ep', hdt, hm, hsz, ent⟩ := Inv.frzT2 I hd
    obtain ⟨rfl, rfl⟩ := dict_ep hod hdt
    obtain ⟨⟨k, v⟩, hkv⟩ : ∃ p, kvs[i]? = some p := ⟨kvs[i], List.getElem?_eq_getElem hi⟩
    obtain ⟨en, q, hen, hkey, hq, rv⟩ := ent i k v hkv
    obtain ⟨ok, ov, he⟩ := st
    have hi' : i < es'.size := by rw [hsz]; exact hi
    have hen' : es'[i] = en := by
      rw [Array.getElem?_eq_getElem hi'] at hen
      exact Option.some.inj hen
    have hlt : it < s.heap.objs.size := Heap.lt_size he
    have he0 := he
    rw [← hsz] at he
    refine wpAny_pyNext_items_item_raw he hm hi' fun h' ho hT hz hk => ?_
    rw [hen', hkey] at ho hT
    refine ⟨_, rfl, wpAny_letOwnedTupleGo_items (s := { s with heap := h' }) ho fun h'' he' sb => ?_⟩
    have hT2 : h''.get? s.heap.objs.size = some { cls := .type "tuple", data := .seq #[.ref q, en.val] } := (sb.2 _ (Nat.ne_of_gt hlt)).trans hT
    have new : ObjOk X.prog X.w (upd H s.heap.objs.size (.tup [.ref q, v])) h'' s.heap.objs.size (.tup [.ref q, v]) :=
      ⟨by show 2 ≤ sizeLine; decide, [.ref q, en.val], .cons rfl (.cons rv .nil), ⟨_, hT2, rfl, _, rfl⟩⟩
    have I1 : Inv X pins σ (upd H s.heap.objs.size (.tup [.ref q, v])) { s with heap := h'' } :=
      I.turnedNew (t' := s.toks) (ch := [it]) (fun b ob hb e => (sb.2 b (by simpa using hb)).trans (hk b ob (by simpa using hb) e)) hf (Nat.le_refl _) new
    refine ⟨.ref s.heap.objs.size, _, I1, rfl, ⟨_, k, v, q, hkv, rfl, I.hok.fresh (Nat.le_refl _), hq, rfl⟩, ⟨.ref q, en.val, ?_⟩, fun b hb => ?_⟩
    · rw [← hsz]; exact he'
    · have e : b = it := by simpa using hb
      rw [e, upd_ne (Nat.ne_of_lt hlt)]
      exact (hf it (by simp)).1
  done := by
    intro X hP hw hK hc i pins s σ H E I hf st hg
    subst hP hw hK
    obtain ⟨hd, hi⟩ := hg
    obtain ⟨f0, f1, f2, f3, f4, f5⟩ := hf it (by simp)
    obtain ⟨hs, es', ep', hdt, hm, hsz, ent⟩ := Inv.frzT2 I hd
    obtain ⟨rfl, rfl⟩ := dict_ep hod hdt
    obtain ⟨ok, ov, he⟩ := st
    rw [← hsz] at he
    exact wpAny_pyNext_items_end_raw (I.ok.hd hc) he hm (by rw [hsz]; exact hi) fun h' eb => ⟨rfl, I.turned (t' := s.toks) (fun b ob hb e => eb b ob hb e) f0 f1 f3 f4 f5⟩
  self := fun A i s Q E st h => let ⟨_, _, e⟩ := st; PySem.W.kcp_self e h
def iItemsT (td : TE) : TI := fun σ H R => td σ H fun x H1 => ∃ d o kvs, x = .ref d ∧ H1 d = some (.frz o (.dT kvs)) ∧ R (Itit d o kvs) H1
theorem pi_itemsT {X : Cx} {e : Expr} {td : TE} {apos cpos : Pos} {elts : List Expr} {kk : Nat} {tpos : Pos} (he : PE X e td) (hbase : attributeBase e "items" X.env (eval e X.env) = eval e X.env := by rfl) (hline : (apos.endLine == cpos.line) = true := by rfl) :
    PI X (.Tuple elts kk tpos) (.Call (.Attribute e "items" apos) [] [] cpos) (iItemsT td) := by
  refine ⟨fun pins s σ H R I h => ?_⟩
  refine wpAny_Call_method (T := "dict") (id := "dict.items") hbase rfl hline F.plainAttrs_dict F.slot_dict_items F.type_dict_items (thn (he.run pins s σ H _ I h) fun u s1 ⟨x, H1, I1, rx, d, o, kvs, ex, hd, q⟩ => ?_)
  subst ex
  obtain rfl : u = Value.ref d := rx
  obtain ⟨hs, es, ep, hdt, hm, hsz, ent⟩ := Inv.frzT2 I1 hd
  obtain ⟨oo, ho, hx, _⟩ := id hm
  refine ⟨hm.typeIs, fun a e => by cases e; exact ⟨_, ho, hx.2.1⟩, ?_⟩
  have I2 : Inv X pins σ H1 { s1 with heap := s1.heap.push { cls := .type "dict_items", data := .fields #[.ref d] } } := I1.kept (t' := s1.toks) fun b ob q => Heap.get?_push_of_some _ q
  have fin : wpAny (model X.prog X.w) X.A (pyIter (.ref s1.heap.objs.size)) (PIE X pins σ (.Tuple elts kk tpos) R) X.xe { s1 with heap := s1.heap.push { cls := .type "dict_items", data := .fields #[.ref d] } } := by
    refine wpAny_pyIter_items_raw (d := d) ⟨_, Heap.get?_push_size _ rfl, rfl, rfl⟩ (hm.at fun o e => Heap.get?_push_of_some _ e) (pi_one (tk := s1.toks) I2 _ (turn_itemsT _ hdt) ⟨.none, .none, ?_⟩ q)
    rw [← hsz]
    exact Heap.get?_push_size _ rfl
  show wpAny _ _ (callWith cpos (.builtin "dict.items") [.ref d] [] []) _ X.xe s1
  exact method_meetsIn F.slot_dict_items F.entry_dict_items rfl (PySem.evalArgs_none ⟨rfl, hm.typeIs, F.args_dict_items_1 _, _, meets_dict_items_raw d hs, ⟨⟨es, ep, hm⟩, fin⟩⟩)
end N34

set_option Elab.async false
set_option linter.all false
set_option maxRecDepth 100000
set_option maxHeartbeats 1000000
/-! further expressions -/
namespace N34
open PySem PySem.Spec PyProof.Rows L2

section
variable {X : Cx} {S : List Addr} {σ0 : L2.St} {H0 : Hp} {R Ra Rb Rz : RV} {a b e : Expr} {es : List Expr} {pos : Pos} {d : PyData}
theorem hu5 {k : Nat} (hr : Room k X.A) : X.A.units + 65 < cLine := by have := hr.un; omega
theorem hu4 {k : Nat} (hr : Room k X.A) : X.A.units + 64 < cLine := by have := hr.un; omega
theorem hu1 {k : Nat} (hr : Room k X.A) : X.A.units + 1 < cLine := by have := hr.un; omega
theorem r_neg {i : Int} (h : PE X a (tR S σ0 H0 (isD (.int i)))) : PE X (.UnaryOp .USub a pos) (tR S σ0 H0 (isD (.int (-i)))) :=
  PE_imp (pe_un un_neg h) fun σ H Q ⟨q, ex, al, k⟩ => ⟨q, ex, al, fun x H1 e1 r => ⟨i, r.intI, k _ _ e1 (.int _)⟩⟩
theorem r_intI {i : Int} {p : Pos} (hm : X.mg "int" = none) (ha : PE X a (tR S σ0 H0 (isD (.int i)))) (hg : Gl X "int" := by rfl) (hs : starEach [a] X.env = (false, eval a X.env) :: starEach [] X.env := by rfl) : PE X (.Call (.Name "int" p) [a] [] pos) (tR S σ0 H0 (isD (.int i))) :=
  r_callTy call_int1 hm (by decide +kernel) (ra_1 ha hs) (fun vs H _ _ h Q k => by
    obtain ⟨v, ws, rfl, h1, h2⟩ := h
    cases h2
    exact .inl ⟨i, by rw [h1.intI], k _ H (Ex.refl _) (.int _)⟩) hg (he := hs)
theorem r_abs {i : Int} {p : Pos} (hm : X.mg "abs" = none) (ha : PE X a (tR S σ0 H0 (isD (.int i)))) (hg : Gl X "abs" := by rfl) (hs : starEach [a] X.env = (false, eval a X.env) :: starEach [] X.env := by rfl) : PE X (.Call (.Name "abs" p) [a] [] pos) (tR S σ0 H0 (isD (.int (if i < 0 then -i else i)))) :=
  r_callB call_abs hm (by decide +kernel) (ra_1 ha hs) (fun vs H _ _ h Q k => by
    obtain ⟨v, ws, rfl, h1, h2⟩ := h
    cases h2
    exact ⟨i, by rw [h1.intI], k _ H (Ex.refl _) (.int _)⟩) hg (he := hs)
/-- the least of some ints -/
def minI : List Int → Int
  | [] => 0
  | [a] => a
  | a :: b :: l => if a ≤ minI (b :: l) then a else minI (b :: l)
theorem minI_spec : ∀ {l : List Int}, l ≠ [] → minI l ∈ l ∧ ∀ y ∈ l, minI l ≤ y
  | [a], _ => ⟨List.mem_cons_self, fun y h => by rw [List.mem_singleton.mp h]; exact Int.le_refl _⟩
  | a :: b :: l, _ => by
    obtain ⟨h1, h2⟩ := minI_spec (l := b :: l) (by simp)
    show (if a ≤ minI (b :: l) then a else minI (b :: l)) ∈ _ ∧ ∀ y ∈ _, (if a ≤ minI (b :: l) then a else minI (b :: l)) ≤ y
    by_cases c : a ≤ minI (b :: l)
    · rw [if_pos c]
      exact ⟨List.mem_cons_self, fun y h => (List.mem_cons.mp h).elim (fun e => by rw [e]; exact Int.le_refl _) fun h => Int.le_trans c (h2 y h)⟩
    · rw [if_neg c]
      exact ⟨List.mem_cons_of_mem _ h1, fun y h => (List.mem_cons.mp h).elim (fun e => by rw [e]; omega) fun h => h2 y h⟩
theorem r_min {ns : List Int} {p : Pos} (hc : X.calm = true) (hm : X.mg "min" = none) (ha : PE X a (tR S σ0 H0 (isD (lint ns)))) (hn : ns ≠ []) (hg : Gl X "min" := by rfl) (hs : starEach [a] X.env = (false, eval a X.env) :: starEach [] X.env := by rfl) : PE X (.Call (.Name "min" p) [a] [] pos) (tR S σ0 H0 (isD (.int (minI ns)))) :=
  r_callB (cr_min hc) hm (by decide +kernel) (ra_1 ha hs) (fun vs H _ _ h Q k => by
    obtain ⟨v, ws, rfl, h1, h2⟩ := h
    cases h2
    obtain ⟨a, rfl, h3⟩ := h1.lintI
    refine ⟨a, ns, rfl, SqL.of (hid_le _ _ h3), List.length_pos_iff.mpr hn, fun m h1 h2 => ?_⟩
    obtain ⟨q1, q2⟩ := minI_spec hn
    have e : m = minI ns := Int.le_antisymm (h2 _ q1) (q2 _ h1)
    rw [e]; exact k _ H (Ex.refl _) (.int _)) hg (he := hs)
/-- sorted ints -/
def isort (l : List Int) : List Int := l.mergeSort fun a b => decide (a ≤ b)
theorem isort_perm (l : List Int) : (isort l).Perm l := List.mergeSort_perm _ _
theorem isort_pw (l : List Int) : (isort l).Pairwise (· ≤ ·) := by
  have := List.pairwise_mergeSort (le := fun a b : Int => decide (a ≤ b)) (fun a b c h1 h2 => by simp at *; omega) (fun a b => by simp; omega) l
  exact this.imp fun h => by simpa using h
theorem isort_uniq : ∀ {l m : List Int}, l.Perm m → l.Pairwise (· ≤ ·) → m.Pairwise (· ≤ ·) → l = m
  | [], m, p, _, _ => p.nil_eq
  | a :: l, [], p, _, _ => p.eq_nil
  | a :: l, b :: m, p, hl, hm => by
    obtain ⟨h1, h1'⟩ := List.pairwise_cons.mp hl
    obtain ⟨h2, h2'⟩ := List.pairwise_cons.mp hm
    have e : a = b := by
      have ab : b ≤ a := by
        rcases List.mem_cons.mp (p.subset List.mem_cons_self) with z | z
        · omega
        · exact h2 a z
      have ba : a ≤ b := by
        rcases List.mem_cons.mp (p.symm.subset List.mem_cons_self) with z | z
        · omega
        · exact h1 b z
      omega
    subst e
    rw [isort_uniq (List.Perm.cons_inv p) h1' h2']
theorem isort_eq {l m : List Int} (p : l.Perm m) (h : l.Pairwise (· ≤ ·)) : l = isort m := isort_uniq (p.trans (isort_perm m).symm) h (isort_pw m)
theorem r_sortI {ns : List Int} {p : Pos} (hm : X.mg "sorted" = none) (ha : PE X a (tR S σ0 H0 (isD (lint ns)))) (hl : ns.length < 64) (hg : Gl X "sorted" := by rfl) (hs : starEach [a] X.env = (false, eval a X.env) :: starEach [] X.env := by rfl) : PE X (.Call (.Name "sorted" p) [a] [] pos) (tR S σ0 H0 (isD (lint (isort ns)))) :=
  r_callB cr_sorted hm (by decide +kernel) (ra_1 ha hs) (fun vs H _ al h Q k => by
    obtain ⟨v, ws, rfl, h1, h2⟩ := h
    cases h2
    obtain ⟨a, rfl, h3⟩ := h1.lintI
    refine ⟨a, ns, rfl, SqL.of (hid_le _ _ h3), hl, fun ns' p h1 h2 hp => ?_⟩
    rw [isort_eq h1 h2]
    exact k _ _ (Ex.new hp) (.lst (hid_new al hp) (.of_ints _))) hg (he := hs)
theorem vecs_as {F : Hp} : ∀ {nss : List (List Int)} {xs : List V}, DtA F xs (nss.map vec) → ∃ as : List Addr, xs = as.map V.ref ∧ as.map (rdT F) = nss ∧ ∀ b ∈ as, F b = some (.tup ((rdT F b).map V.int))
  | [], _, .nil => ⟨[], rfl, rfl, fun _ h => nomatch h⟩
  | ns :: nss, _, .cons h r => by
    obtain ⟨a, rfl, h1⟩ := h.vecI
    obtain ⟨as, e1, e2, e3⟩ := vecs_as r
    subst e1
    refine ⟨a :: as, rfl, ?_, fun b hb => ?_⟩
    · rw [List.map_cons, rdT_of h1, e2]
    · rcases List.mem_cons.mp hb with e | hb
      · rw [e, rdT_of h1]; exact h1
      · exact e3 b hb
theorem as_vecs {F : Hp} : ∀ {as : List Addr}, (∀ b ∈ as, F b = some (.tup ((rdT F b).map V.int))) → DtA F (as.map V.ref) ((as.map (rdT F)).map vec)
  | [], _ => .nil
  | a :: as, h => .cons (Dt.vecO (h a List.mem_cons_self)) (as_vecs fun b hb => h b (List.mem_cons_of_mem _ hb))
theorem r_sortV {nss : List (List Int)} {p : Pos} (hm : X.mg "sorted" = none) (ha : PE X a (tR S σ0 H0 (isD (lvec nss)))) (hn : ∀ k ∈ nss, k ≠ []) (hg : Gl X "sorted" := by rfl) (hs : starEach [a] X.env = (false, eval a X.env) :: starEach [] X.env := by rfl) : PE X (.Call (.Name "sorted" p) [a] [] pos) (tR S σ0 H0 (isD (lvec (vsort nss)))) :=
  r_callB cr_sortT hm (by decide +kernel) (ra_1 ha hs) (fun vs H _ al h Q k => by
    obtain ⟨v, ws, rfl, h1, h2⟩ := h
    cases h2
    obtain ⟨a, xs, rfl, h3, h4⟩ := h1.lstI
    obtain ⟨as, e1, e2, e3⟩ := vecs_as h4
    subst e1
    refine ⟨a, as, rdT (hid S H), rfl, SqL.of (hid_le _ _ h3), fun b hb => ⟨hid_le _ _ (e3 b hb), hn _ (by rw [← e2]; exact List.mem_map_of_mem hb)⟩, fun bs p h1 h2 hp => ?_⟩
    have e : bs.map (rdT (hid S H)) = vsort nss := vsort_uniq (by rw [← e2]; exact h1.map _) h2
    have q : DtA (hid S H) (bs.map V.ref) ((vsort nss).map vec) := by rw [← e]; exact as_vecs fun b hb => e3 b (h1.subset hb)
    exact k _ _ (Ex.new hp) (.lst (hid_new al hp) (q.mono (hid_ex (Ex.new hp))))) hg (he := hs)
theorem r_sumT {ns : List Int} {p : Pos} (hc : X.calm = true) (hm : X.mg "sum" = none) (ha : PE X a (tR S σ0 H0 (isD (vec ns)))) (hg : Gl X "sum" := by rfl) (hs : starEach [a] X.env = (false, eval a X.env) :: starEach [] X.env := by rfl) : PE X (.Call (.Name "sum" p) [a] [] pos) (tR S σ0 H0 (isD (.int ns.sum))) :=
  r_callB (cr_sumT hc) hm (by decide +kernel) (ra_1 ha hs) (fun vs H _ _ h Q k => by
    obtain ⟨v, ws, rfl, h1, h2⟩ := h
    cases h2
    obtain ⟨a, rfl, h3⟩ := h1.vecI
    exact ⟨a, ns, rfl, SqT.of (hid_le _ _ h3), k _ H (Ex.refl _) (.int _)⟩) hg (he := hs)

/-! ### typed forms -/
theorem r_catV {x y : List Int} (ha : PE X a (tR S σ0 H0 (isD (vec x)))) (hb : PE X b (tR S σ0 H0 (isD (vec y)))) (hl : x.length + y.length ≤ 100000) : PE X (.BinOp a .Add b pos) (tR S σ0 H0 (isD (vec (x ++ y)))) :=
  r_eq (r_catT ha hb (by rw [List.length_map, List.length_map]; exact hl)) (by rw [← List.map_append])
theorem r_catLe {α : Type} (en : α → PyData) {x y : List α} (ha : PE X a (tR S σ0 H0 (isD (.list (x.map en))))) (hb : PE X b (tR S σ0 H0 (isD (.list (y.map en))))) (hl : x.length + y.length ≤ 100000) : PE X (.BinOp a .Add b pos) (tR S σ0 H0 (isD (.list ((x ++ y).map en)))) :=
  r_eq (r_catL ha hb (by rw [List.length_map, List.length_map]; exact hl)) (by rw [← List.map_append])
theorem r_tupI {x : List Int} {k : Nat} (h : PA X es (tRA S σ0 H0 ((x.map PyData.int).map isD))) (hl : x.length ≤ 100000 := by exact Nat.le_of_ble_eq_true rfl) : PE X (.Tuple es k pos) (tR S σ0 H0 (isD (vec x))) := r_tup h (by rw [List.length_map]; exact hl)
theorem r_lstE {α : Type} (en : α → PyData) (x : List α) (h : PA X es (tRA S σ0 H0 ((x.map en).map isD))) (hl : x.length ≤ 100000 := by exact Nat.le_of_ble_eq_true rfl) : PE X (.List es pos) (tR S σ0 H0 (isD (.list (x.map en)))) := r_lst h (by rw [List.length_map]; exact hl)

/-! ### (x,) * n, [x] * n -/
theorem rep1 {α : Type} (x : α) : ∀ n : Nat, (List.replicate n [x]).flatten = List.replicate n x
  | 0 => rfl
  | n + 1 => by rw [List.replicate_succ, List.flatten_cons, rep1 x n]; rfl
theorem op_repV : OpR X (binaryOp .Mult) (fun x y H Q => ∃ l n v, x = .ref l ∧ y = .int n ∧ 1 ≤ n ∧ n ≤ 1000 ∧ SqT X.K H l [v] ∧ ((n = 1 → Q (.ref l) H) ∧ (n ≠ 1 → ∀ p, H p = none → Q (.ref p) (upd H p (.tup (List.replicate n.toNat v)))))) := by
  intro pins s σ H x y v u Q I rx ry h
  obtain ⟨l, n, w, e1, e2, h1, h2, hT, q1, q2⟩ := h
  by_cases c : n = 1
  · subst c
    exact op_rep1 pins s σ H x y v u Q I rx ry ⟨l, [w], e1, e2, hT, q1 rfl⟩
  · refine op_repT pins s σ H x y v u Q I rx ry ⟨l, n, [w], e1, e2, hT, by simp, by omega, h2, by simp, fun p hp => ?_⟩
    rw [rep1]; exact q2 c p hp
theorem r_repV {x n : Int} (ha : PE X a (tR S σ0 H0 (isD (vec [x])))) (hb : PE X b (tR S σ0 H0 (isD (.int n)))) (h : 1 ≤ n ∧ n ≤ 1000) : PE X (.BinOp a .Mult b pos) (tR S σ0 H0 (isD (vec (List.replicate n.toNat x)))) :=
  r_op op_repV ha hb (isD_mono _) fun u v H _ al hx hy Q k => by
    obtain ⟨p, rfl, h3⟩ := hx.vecI
    refine ⟨p, n, .int x, rfl, hy.intI, h.1, h.2, SqT.of (hid_le _ _ h3), fun c => ?_, fun c l hl => ?_⟩
    · subst c; exact k _ _ (Ex.refl _) hx
    · refine k _ _ (Ex.new hl) (Dt.vecO ?_)
      rw [hid_new al hl, List.map_replicate]
theorem r_repI {x n : Int} (ha : PE X a (tR S σ0 H0 (isD (lint [x])))) (hb : PE X b (tR S σ0 H0 (isD (.int n)))) (h : 1 ≤ n ∧ n ≤ 1000) : PE X (.BinOp a .Mult b pos) (tR S σ0 H0 (isD (lint (List.replicate n.toNat x)))) :=
  r_op op_rep ha hb (isD_mono _) fun u v H _ al hx hy Q k => by
    obtain ⟨p, rfl, h3⟩ := hx.lintI
    refine ⟨p, n, [.int x], rfl, hy.intI, hid_le _ _ h3, by omega, by omega, sz (by simp; omega), fun l hl => ?_⟩
    refine k _ _ (Ex.new hl) (.lst (xs := List.replicate n.toNat (.int x)) (by rw [hid_new al hl, rep1]) ?_)
    have := DtA.of_ints (H := hid S (upd H l (.lst (List.replicate n.toNat [V.int x]).flatten))) (List.replicate n.toNat x)
    rw [List.map_replicate] at this
    exact this

/-! ### slices -/
def tI (S : List Addr) (σ0 : L2.St) (H0 : Hp) (i : Option Int) : TO := fun σ H Q => σ = σ0 ∧ Ex H0 H ∧ Al S H ∧ ∀ H2, Ex H H2 → Q i H2
theorem PO_imp {e : Option Expr} {t t' : TO} (h : PO X e t) (f : ∀ σ H Q, t' σ H Q → t σ H Q) : PO X e t' := ⟨fun pins s σ H Q I q => h.run pins s σ H Q I (f _ _ _ q)⟩
theorem o_none : PO X none (tI S σ0 H0 none) := PO_imp po_none fun σ H Q ⟨_, _, _, k⟩ => k H (Ex.refl _)
theorem o_some {i : Int} (h : PE X e (tR S σ0 H0 (isD (.int i)))) : PO X (some e) (tI S σ0 H0 (some i)) := PO_imp (po_some h) fun σ H Q ⟨q, ex, al, k⟩ => ⟨q, ex, al, fun x H1 e1 r => ⟨i, r.intI, k H1 e1⟩⟩
theorem DtA.take {H : Hp} : ∀ {vs : List V} {ds : List PyData} (n : Nat), DtA H vs ds → DtA H (vs.take n) (ds.take n)
  | _, _, 0, _ => by rw [List.take_zero, List.take_zero]; exact .nil
  | _, _, _ + 1, .nil => .nil
  | _, _, n + 1, .cons h r => .cons h (DtA.take n r)
theorem sIx_hi (n k : Nat) : HT.sIx n n (some (k : Int)) = min k n := by
  unfold HT.sIx
  simp
  omega
theorem r_slTo {ds : List PyData} {n : Nat} {hi : Expr} {p2 : Pos} (ha : PE X e (tR S σ0 H0 (isD (.list ds)))) (hb : PE X hi (tR S σ0 H0 (isD (.int n)))) : PE X (.Subscript e (.Slice none (some hi) none p2) pos) (tR S σ0 H0 (isD (.list (ds.take n)))) :=
  PE_imp (pe_slice sl_list ha o_none (o_some hb)) fun σ H Q ⟨q, ex, al, k⟩ => ⟨q, ex, al, fun v H1 e1 r => ⟨q, ex.trans e1, al.ex e1, fun H2 e2 => ⟨q, (ex.trans e1).trans e2, (al.ex e1).ex e2, fun H3 e3 => by
    obtain ⟨a, xs, rfl, h3, h4⟩ := r.lstI
    have al3 := ((al.ex e1).ex e2).ex e3
    refine ⟨a, xs, rfl, SqL.of (e3 _ _ (e2 _ _ (hid_le _ _ h3))), fun p hp => ?_⟩
    have e : cutV xs none (some (n : Int)) = xs.take n := by
      unfold cutV
      have z : HT.sIx xs.length 0 none = 0 := rfl
      rw [z, sIx_hi, List.drop_zero, Nat.sub_zero]
      by_cases c : n ≤ xs.length
      · rw [Nat.min_eq_left c]
      · rw [Nat.min_eq_right (by omega), List.take_length, List.take_of_length_le (by omega)]
    refine k _ _ (((e1.trans e2).trans e3).trans (Ex.new hp)) (.lst (xs := xs.take n) (by rw [hid_new al3 hp, e]) ?_)
    exact ((h4.take n).mono (hid_ex ((e2.trans e3).trans (Ex.new hp))))⟩⟩⟩
theorem DtA.rev {H : Hp} : ∀ {vs : List V} {ds : List PyData}, DtA H vs ds → DtA H vs.reverse ds.reverse
  | _, _, .nil => .nil
  | _, _, .cons h r => by rw [List.reverse_cons, List.reverse_cons]; exact (DtA.rev r).append (.cons h .nil)
theorem r_rev {ds : List PyData} {k : Nat} {p1 p2 p3 : Pos} (ha : PE X e (tR S σ0 H0 (isD (.list ds)))) : PE X (.Subscript e (.Slice none none (some (.UnaryOp .USub (.Constant (.int 1) k p1) p2)) p3) pos) (tR S σ0 H0 (isD (.list ds.reverse))) :=
  PE_imp (pe_revL ha) fun σ H Q ⟨q, ex, al, k⟩ => ⟨q, ex, al, fun v H1 e1 r => by
    obtain ⟨a, xs, rfl, h3, h4⟩ := r.lstI
    exact ⟨a, xs, rfl, SqL.of (hid_le _ _ h3), fun p hp => k _ _ (e1.trans (Ex.new hp)) (.lst (hid_new (al.ex e1) hp) (h4.rev.mono (hid_ex (Ex.new hp))))⟩⟩

/-! ### stars in displays -/
theorem AllR.append {H : Hp} : ∀ {Rs Qs : List RV} {vs ws : List V}, AllR Rs vs H → AllR Qs ws H → AllR (Rs ++ Qs) (vs ++ ws) H
  | [], _, _, _, h, q => by rw [show _ = [] from h]; exact q
  | _ :: _, _, _, _, ⟨v, ws, h1, h2, h3⟩, q => by rw [h1]; exact ⟨v, _, rfl, h2, h3.append q⟩
theorem DtA.allR {H : Hp} : ∀ {vs : List V} {ds : List PyData}, DtA H vs ds → AllR (ds.map isD) vs H
  | _, _, .nil => rfl
  | _, _, .cons h r => ⟨_, _, rfl, h, r.allR⟩
theorem ra_star {ds es' : List PyData} {p : Pos} (ha : PE X e (tR S σ0 H0 (fun v H => Dt H v (.tuple ds) ∨ Dt H v (.list ds)))) (hr : PA X es (tRA S σ0 H0 (es'.map isD))) (hs : starEach (.Starred e p :: es) X.env = (true, eval e X.env) :: starEach es X.env := by rfl) : PA X (.Starred e p :: es) (tRA S σ0 H0 ((ds ++ es').map isD)) :=
  PA_imp (StX.pa_star ha hr hs) fun σ H Q ⟨q, ex, al, k⟩ => ⟨q, ex, al, fun x H1 e1 r => by
    have fin : ∀ (p : Addr) (xs : List V), DtA (hid S H1) xs ds → tRA S σ0 H0 (es'.map isD) σ H1 fun ys H2 => Q (xs ++ ys) H2 := fun p xs h4 =>
      ⟨q, ex.trans e1, al.ex e1, fun ys H2 e2 ra => k _ H2 (e1.trans e2) (by rw [List.map_append]; exact (h4.mono (hid_ex e2)).allR.append ra)⟩
    rcases r with r | r
    · obtain ⟨p, xs, rfl, h3, h4⟩ := r.tupI
      exact ⟨p, xs, rfl, .inl (SqT.of (hid_le _ _ h3)), fin p xs h4⟩
    · obtain ⟨p, xs, rfl, h3, h4⟩ := r.lstI
      exact ⟨p, xs, rfl, .inr (SqL.of (hid_le _ _ h3)), fin p xs h4⟩⟩
theorem ra_starT {ds es' : List PyData} {p : Pos} (ha : PE X e (tR S σ0 H0 (isD (.tuple ds)))) (hr : PA X es (tRA S σ0 H0 (es'.map isD))) (hs : starEach (.Starred e p :: es) X.env = (true, eval e X.env) :: starEach es X.env := by rfl) : PA X (.Starred e p :: es) (tRA S σ0 H0 ((ds ++ es').map isD)) :=
  ra_star (PE_wk ha fun _ _ h => .inl h) hr hs
theorem ra_nilI : PA X [] (tRA S σ0 H0 ((([] : List Int).map PyData.int).map isD)) := ra_nil
theorem ra_I {i : Int} {y : List Int} (ha : PE X e (tR S σ0 H0 (isD (.int i)))) (hr : PA X es (tRA S σ0 H0 ((y.map PyData.int).map isD))) (hs : starEach (e :: es) X.env = (false, eval e X.env) :: starEach es X.env := by rfl) : PA X (e :: es) (tRA S σ0 H0 (((i :: y).map PyData.int).map isD)) := ra_D ha hr hs
theorem ra_starV {x y : List Int} {p : Pos} (ha : PE X e (tR S σ0 H0 (isD (vec x)))) (hr : PA X es (tRA S σ0 H0 ((y.map PyData.int).map isD))) (hs : starEach (.Starred e p :: es) X.env = (true, eval e X.env) :: starEach es X.env := by rfl) : PA X (.Starred e p :: es) (tRA S σ0 H0 (((x ++ y).map PyData.int).map isD)) := by
  rw [List.map_append]; exact ra_starT ha hr hs
theorem r_lstI {x : List Int} (h : PA X es (tRA S σ0 H0 ((x.map PyData.int).map isD))) (hl : x.length ≤ 100000 := by exact Nat.le_of_ble_eq_true rfl) : PE X (.List es pos) (tR S σ0 H0 (isD (lint x))) := r_lst h (by rw [List.length_map]; exact hl)
end
end N34

set_option Elab.async false
set_option linter.all false
set_option maxRecDepth 100000
set_option maxHeartbeats 1000000
/-! cells, readings with effects -/
namespace N34
open PySem PySem.Spec PyProof.Rows L2
theorem szB {n : Nat} (h : n < 16000000) : n < sizeLine := Nat.lt_of_lt_of_le h (by decide)

/-! ### what cells hold -/
abbrev isR (a : Addr) : RV := fun v _ => v = .ref a
theorem isR_mono (a : Addr) : Mono (isR a) := fun _ _ _ _ h => h
def lisC (ds : List PyData) : CR := fun o F => ∃ xs, o = .lst xs ∧ DtA F xs ds
theorem lisC_mono (ds : List PyData) : MonoC (lisC ds) := ⟨fun o H H' e ⟨xs, h1, h2⟩ => ⟨xs, h1, h2.mono e⟩, fun o H ⟨xs, h, _⟩ => by rw [h]; exact .lst⟩
section
variable {β : Type}
def DiA (en : List Int → β → RV) (F : Hp) : List (List Key × V) → List (List Int × β) → Prop
  | [], [] => True
  | kv :: kvs, p :: m => kv.1 = p.1.map Sum.inl ∧ en p.1 p.2 kv.2 F ∧ DiA en F kvs m
  | _, _ => False
def MonoE (en : List Int → β → RV) : Prop := ∀ c b, Mono (en c b)
theorem DiA.mono {en : List Int → β → RV} (me : MonoE en) {F F' : Hp} (e : Ex F F') : ∀ {kvs : List (List Key × V)} {m : List (List Int × β)}, DiA en F kvs m → DiA en F' kvs m
  | [], [], _ => trivial
  | _ :: _, _ :: _, ⟨h1, h2, h3⟩ => ⟨h1, me _ _ _ _ _ e h2, DiA.mono me e h3⟩
def dicC (en : List Int → β → RV) (m : List (List Int × β)) : CR := fun o F => ∃ kvs, o = .dT kvs ∧ DiA en F kvs m
theorem dicC_mono {en : List Int → β → RV} (me : MonoE en) (m : List (List Int × β)) : MonoC (dicC en m) := ⟨fun o H H' e ⟨kvs, h1, h2⟩ => ⟨kvs, h1, h2.mono me e⟩, fun o H ⟨xs, h, _⟩ => by rw [h]; exact .dT⟩
def lk (m : List (List Int × β)) (c : List Int) : Option β := (m.find? fun p => decide (p.1 = c)).map (·.2)
def pt (m : List (List Int × β)) (c : List Int) (b : β) : List (List Int × β) :=
  if (m.any fun p => decide (p.1 = c)) = true then m.map (fun p => if p.1 = c then (p.1, b) else p) else m ++ [(c, b)]
theorem inl_inj {a b : List Int} : (a.map (Sum.inl : Int → Key)) = b.map Sum.inl ↔ a = b := by
  constructor
  · intro h
    have := congrArg (List.map kV) h
    rw [List.map_map, List.map_map] at this
    have q := congrArg (List.map unI) this
    rw [List.map_map, List.map_map] at q
    have e : (unI ∘ kV ∘ (Sum.inl : Int → Key)) = id := rfl
    rw [e, List.map_id, List.map_id] at q
    exact q
  · intro h; rw [h]
theorem dec_key {k : List Key} {c d : List Int} (h : k = d.map Sum.inl) : decide (k = c.map Sum.inl) = decide (d = c) := by
  subst h
  by_cases q : d = c
  · rw [decide_eq_true q, decide_eq_true (inl_inj.mpr q)]
  · rw [decide_eq_false q, decide_eq_false fun z => q (inl_inj.mp z)]
theorem DiA.look {en : List Int → β → RV} {F : Hp} (c : List Int) : ∀ {kvs : List (List Key × V)} {m : List (List Int × β)}, DiA en F kvs m →
    (valV kvs (c.map Sum.inl)).isSome = (lk m c).isSome ∧ ∀ b, lk m c = some b → ∃ v, valV kvs (c.map Sum.inl) = some v ∧ en c b v F
  | [], [], _ => ⟨rfl, fun b h => by cases h⟩
  | kv :: kvs, p :: m, ⟨h1, h2, h3⟩ => by
    have ih := DiA.look c h3
    by_cases q : p.1 = c
    · have e : kv.1 = c.map Sum.inl := by rw [h1, q]
      have e1 : lk (p :: m) c = some p.2 := by simp [lk, q]
      rw [valV_pos e, e1]
      refine ⟨rfl, fun b hb => ?_⟩
      cases hb
      subst q
      exact ⟨_, rfl, h2⟩
    · have e : ¬ kv.1 = c.map Sum.inl := fun z => q (inl_inj.mp (h1.symm.trans z))
      have e1 : lk (p :: m) c = lk m c := by simp [lk, q]
      rw [valV_neg e, e1]
      exact ih
theorem DiA.any {en : List Int → β → RV} {F : Hp} (c : List Int) : ∀ {kvs : List (List Key × V)} {m : List (List Int × β)}, DiA en F kvs m → (kvs.any fun kv => decide (kv.1 = c.map Sum.inl)) = m.any fun p => decide (p.1 = c)
  | [], [], _ => rfl
  | kv :: kvs, p :: m, ⟨h1, h2, h3⟩ => by rw [List.any_cons, List.any_cons, DiA.any c h3, dec_key h1]
theorem DiA.append {en : List Int → β → RV} {F : Hp} : ∀ {kvs kvs' : List (List Key × V)} {m m' : List (List Int × β)}, DiA en F kvs m → DiA en F kvs' m' → DiA en F (kvs ++ kvs') (m ++ m')
  | [], _, [], _, _, h => h
  | _ :: _, _, _ :: _, _, ⟨h1, h2, h3⟩, h => ⟨h1, h2, h3.append h⟩
theorem DiA.set {en : List Int → β → RV} {F : Hp} {c : List Int} {v : V} {b : β} (hv : en c b v F) : ∀ {kvs : List (List Key × V)} {m : List (List Int × β)}, DiA en F kvs m →
    DiA en F (kvs.map fun kv => if kv.1 = c.map Sum.inl then (kv.1, v) else kv) (m.map fun p => if p.1 = c then (p.1, b) else p)
  | [], [], _ => trivial
  | kv :: kvs, p :: m, ⟨h1, h2, h3⟩ => by
    have ih := DiA.set hv h3
    rw [List.map_cons, List.map_cons]
    by_cases q : p.1 = c
    · have e : kv.1 = c.map Sum.inl := by rw [h1, q]
      rw [if_pos q, if_pos e]
      refine ⟨h1, ?_, ih⟩
      show en p.1 b v F
      rw [q]; exact hv
    · have e : ¬ kv.1 = c.map Sum.inl := fun z => q (inl_inj.mp (h1.symm.trans z))
      rw [if_neg q, if_neg e]
      exact ⟨h1, h2, ih⟩
theorem DiA.put {en : List Int → β → RV} {F : Hp} {c : List Int} {v : V} {b : β} (hv : en c b v F) {kvs : List (List Key × V)} {m : List (List Int × β)} (h : DiA en F kvs m) : DiA en F (putK kvs (c.map Sum.inl) v) (pt m c b) := by
  unfold putK pt
  rw [h.any c]
  by_cases q : (m.any fun p => decide (p.1 = c)) = true
  · rw [if_pos q, if_pos q]; exact h.set hv
  · rw [if_neg q, if_neg q]; exact h.append ⟨rfl, hv, trivial⟩
theorem DiA.length {en : List Int → β → RV} {F : Hp} : ∀ {kvs : List (List Key × V)} {m : List (List Int × β)}, DiA en F kvs m → kvs.length = m.length
  | [], [], _ => rfl
  | _ :: _, _ :: _, ⟨_, _, h⟩ => congrArg Nat.succ h.length
theorem DiA.keys {en : List Int → β → RV} {F : Hp} : ∀ {kvs : List (List Key × V)} {m : List (List Int × β)}, DiA en F kvs m → kvs.map (·.1) = (m.map (·.1)).map (fun k => k.map Sum.inl)
  | [], [], _ => rfl
  | _ :: _, _ :: _, ⟨h1, _, h⟩ => by rw [List.map_cons, List.map_cons, List.map_cons, h1, h.keys]
end

/-! ### readings with effects on cells -/
def tG (S : List Addr) (Bs : List Hp) (Γ : Ga) (M M' : Ce) (R : RV) : TE := fun σ H Q => Sg S Bs Γ M σ H ∧ ∀ v H2, Sg S Bs Γ M' σ H2 → Ex (hid S H) (hid S H2) → R v (hid S H2) → Q v H2
def tGT (S : List Addr) (Bs : List Hp) (Γ : Ga) (M M' : Ce) (b : Bool) : TT := fun σ H Q => Sg S Bs Γ M σ H ∧ ∀ H2, Sg S Bs Γ M' σ H2 → Ex (hid S H) (hid S H2) → Q b H2
def tGA (S : List Addr) (Bs : List Hp) (Γ : Ga) (M M' : Ce) (Rs : List RV) : TA := fun σ H Q => Sg S Bs Γ M σ H ∧ ∀ vs H2, Sg S Bs Γ M' σ H2 → Ex (hid S H) (hid S H2) → AllR Rs vs (hid S H2) → Q vs H2
section
variable {X : Cx} {S : List Addr} {Bs : List Hp} {Γ : Ga} {M M' M1 M2 : Ce} {R Ra Rb Rz : RV} {a b e c : Expr} {es : List Expr} {pos : Pos} {d : PyData} {σ : L2.St} {H : Hp}
theorem e_of (h : ∀ σ H, Sg S Bs Γ M σ H → PE X e (tR S σ H R)) : PE X e (tG S Bs Γ M M R) :=
  ⟨fun pins s σ H Q I ⟨g, k⟩ => (h σ H g).run pins s σ H Q I ⟨rfl, Ex.refl _, g.al, fun v H2 e r => k v H2 (g.next e) (hid_ex e) r⟩⟩
theorem et_of (h : ∀ σ H, Sg S Bs Γ M σ H → PT X e (tRT S σ H x)) : PT X e (tGT S Bs Γ M M x) :=
  ⟨fun pins s σ H Q I ⟨g, k⟩ => (h σ H g).run pins s σ H Q I ⟨rfl, Ex.refl _, g.al, fun H2 e => k H2 (g.next e) (hid_ex e)⟩⟩
theorem ea_of {Rs : List RV} (h : ∀ σ H, Sg S Bs Γ M σ H → PA X es (tRA S σ H Rs)) : PA X es (tGA S Bs Γ M M Rs) :=
  ⟨fun pos pins s σ H Q I ⟨g, k⟩ => (h σ H g).run pos pins s σ H Q I ⟨rfl, Ex.refl _, g.al, fun v H2 e r => k v H2 (g.next e) (hid_ex e) r⟩⟩
theorem e_wk {R' : RV} (h : PE X e (tG S Bs Γ M M' R)) (f : ∀ v H, R v H → R' v H) : PE X e (tG S Bs Γ M M' R') := PE_imp h fun σ H Q ⟨g, k⟩ => ⟨g, fun v H2 g2 e r => k v H2 g2 e (f _ _ r)⟩
theorem ea_nil : PA X [] (tGA S Bs Γ M M []) := ea_of fun _ _ _ => ra_nil
theorem ea_cons {Rs : List RV} (hm : Mono R) (ha : PE X e (tG S Bs Γ M M1 R)) (hr : PA X es (tGA S Bs Γ M1 M' Rs)) (hs : starEach (e :: es) X.env = (false, eval e X.env) :: starEach es X.env := by rfl) : PA X (e :: es) (tGA S Bs Γ M M' (R :: Rs)) :=
  PA_imp (pa_cons ha hr hs) fun σ H Q ⟨g, k⟩ => ⟨g, fun x H1 g1 e1 rx => ⟨g1, fun xs H2 g2 e2 rs => k _ H2 g2 (e1.trans e2) ⟨x, xs, rfl, hm _ _ _ e2 rx, rs⟩⟩⟩
theorem e_op {op : Operator} {r : R2} (ho : OpR X (binaryOp op) r) (ha : PE X a (tG S Bs Γ M M1 Ra)) (hb : PE X b (tG S Bs Γ M1 M2 Rb)) (hm : Mono Ra)
    (hr : ∀ x y H, Al S H → Ra x (hid S H) → Rb y (hid S H) → ∀ Q : VK, (∀ z H2, Ex H H2 → Rz z (hid S H2) → Q z H2) → r x y H Q) : PE X (.BinOp a op b pos) (tG S Bs Γ M M2 Rz) :=
  PE_imp (pe_op ho ha hb) fun σ H Q ⟨g, k⟩ => ⟨g, fun x H1 g1 e1 ra => ⟨g1, fun y H2 g2 e2 rb => hr x y H2 g2.al (hm _ _ _ e2 ra) rb Q fun z H3 e3 rz => k z H3 (g2.next e3) ((e1.trans e2).trans (hid_ex e3)) rz⟩⟩
theorem e_cmp {op : CmpOp} {r : R2} (ho : OpR X (compareOp op) r) (ha : PE X a (tG S Bs Γ M M1 Ra)) (hb : PE X b (tG S Bs Γ M1 M2 Rb)) (hm : Mono Ra)
    (hr : ∀ x y H, Al S H → Ra x (hid S H) → Rb y (hid S H) → ∀ Q : VK, (∀ z H2, Ex H H2 → Rz z (hid S H2) → Q z H2) → r x y H Q) (hk : behindInMarks op b = false) : PE X (.Compare a [op] [b] pos) (tG S Bs Γ M M2 Rz) :=
  PE_imp (pe_cmpR ho ha hb hk) fun σ H Q ⟨g, k⟩ => ⟨g, fun x H1 g1 e1 ra => ⟨g1, fun y H2 g2 e2 rb => hr x y H2 g2.al (hm _ _ _ e2 ra) rb Q fun z H3 e3 rz => k z H3 (g2.next e3) ((e1.trans e2).trans (hid_ex e3)) rz⟩⟩
theorem e_ix {r : R2} (hi : IxR X r) (ha : PE X a (tG S Bs Γ M M1 Ra)) (hb : PE X b (tG S Bs Γ M1 M2 Rb)) (hm : Mono Ra)
    (hr : ∀ x y H, Al S H → Ra x (hid S H) → Rb y (hid S H) → ∀ Q : VK, (∀ z H2, Ex H H2 → Rz z (hid S H2) → Q z H2) → r x y H Q) (hs : PlainIx b := by exact fun _ _ => rfl) : PE X (.Subscript a b pos) (tG S Bs Γ M M2 Rz) :=
  PE_imp (pe_ix hi ha hb hs) fun σ H Q ⟨g, k⟩ => ⟨g, fun x H1 g1 e1 ra => ⟨g1, fun y H2 g2 e2 rb => hr x y H2 g2.al (hm _ _ _ e2 ra) rb Q fun z H3 e3 rz => k z H3 (g2.next e3) ((e1.trans e2).trans (hid_ex e3)) rz⟩⟩
theorem e_callB {id : String} {r : List V → Hp → VK → Prop} {Rs : List RV} {x : Str} {p : Pos} (hc : CallR X (.builtin id) r) (hm : X.mg x = none) (hv : bootBuiltins x = some (.builtin id)) (ha : PA X (e :: es) (tGA S Bs Γ M M' Rs))
    (hr : ∀ vs H, Al S H → AllR Rs vs (hid S H) → ∀ Q : VK, (∀ z H2, Ex H H2 → Rz z (hid S H2) → Q z H2) → r vs H Q) (hg : Gl X x := by rfl) (hn : x ≠ "__name__" := by decide) (hdb : (x == ("__debug__" : Str)) = false := by decide)
    (he : starEach (e :: es) X.env = (false, eval e X.env) :: starEach es X.env := by rfl) (hpl : (backTo pos (starEach es X.env)).any (·.1) = false := by rfl) : PE X (.Call (.Name x p) (e :: es) [] pos) (tG S Bs Γ M M' Rz) :=
  PE_imp (pe_callB hc hg hm hv ha hn hdb he hpl) fun σ H Q ⟨g, k⟩ => ⟨g, fun vs H2 g2 e2 rs => hr vs H2 g2.al rs Q fun z H3 e3 rz => k z H3 (g2.next e3) (e2.trans (hid_ex e3)) rz⟩
theorem e_callTy {T : String} {r : List V → Hp → VK → Prop} {Rs : List RV} {x : Str} {p : Pos} (hc : CallR X (.type T) r) (hm : X.mg x = none) (hv : bootBuiltins x = some (.type T)) (ha : PA X (e :: es) (tGA S Bs Γ M M' Rs))
    (hr : ∀ vs H, Al S H → AllR Rs vs (hid S H) → ∀ Q : VK, (∀ z H2, Ex H H2 → Rz z (hid S H2) → Q z H2) → r vs H Q) (hg : Gl X x := by rfl) (hn : x ≠ "__name__" := by decide) (hdb : (x == ("__debug__" : Str)) = false := by decide)
    (he : starEach (e :: es) X.env = (false, eval e X.env) :: starEach es X.env := by rfl) (hpl : (backTo pos (starEach es X.env)).any (·.1) = false := by rfl) : PE X (.Call (.Name x p) (e :: es) [] pos) (tG S Bs Γ M M' Rz) :=
  PE_imp (pe_callTy hc hg hm hv ha hn hdb he hpl) fun σ H Q ⟨g, k⟩ => ⟨g, fun vs H2 g2 e2 rs => hr vs H2 g2.al rs Q fun z H3 e3 rz => k z H3 (g2.next e3) (e2.trans (hid_ex e3)) rz⟩
/-- a pure own def of arguments with effects -/
theorem e_call {pre : List V → Hp → RV → Prop} {x : Str} {p : Pos} {k : Nat} {ps : List Str} {Rs : List RV} (C : Cl X.prog X.w X.K X.mg X.base x k ps (spF pre)) (hr : Room k X.A) (ha : PA X (e :: es) (tGA S Bs Γ M M' Rs))
    (h : ∀ vs F, AllR Rs vs F → pre vs F Rz) (hg : Gl X x := by rfl) (hdb : (x == ("__debug__" : Str)) = false := by decide) (he : starEach (e :: es) X.env = (false, eval e X.env) :: starEach es X.env := by rfl)
    (hpl : (backTo pos (starEach es X.env)).any (·.1) = false := by rfl) : PE X (.Call (.Name x p) (e :: es) [] pos) (tG S Bs Γ M M' Rz) := by
  obtain ⟨f, fd, F, hm, hk, hb⟩ := C.ok
  refine PE_imp (pe_call F hr hg hm hk hb .nil pass0 ha hdb he hpl) fun σ H Q ⟨g, k⟩ => ⟨g, fun vs H1 g1 e1 ra => ?_⟩
  show spF pre (vs ++ []) H1 Q E0
  rw [List.append_nil]
  exact ⟨S, Rz, g1.al, h _ _ ra, fun v H' e2 r => k v H' (g1.next e2) (e1.trans (hid_ex e2)) r⟩

/-! ### defs with effects -/
structure CeOk (S : List Addr) (M : Ce) (H : Hp) : Prop where
  ce : ∀ p ∈ M, p.1 ∈ S ∧ MonoC p.2 ∧ ∃ o, H p.1 = some o ∧ p.2 o (hid S H)
  nd : (M.map (·.1)).Nodup
/-- of the cells M the arguments tell; they come to M', all else stands -/
def spE (pre : List V → Hp → Ce → Ce → RV → Prop) : Sp := fun vs H Q _ => ∃ S M M' R, Al S H ∧ CeOk S M H ∧ pre vs (hid S H) M M' R ∧ M'.map (·.1) = M.map (·.1) ∧
  ∀ v H', Ex (hid (M.map (·.1)) H) H' → CeOk S M' H' → R v (hid S H') → Q v H'
theorem Sg.ceOk (g : Sg S Bs Γ (M1 ++ M2) σ H) : CeOk S M1 H :=
  ⟨fun p hp => have q := g.ce p (List.mem_append_left _ hp); ⟨q.1, q.2.2⟩, by have := g.nd; rw [List.map_append] at this; exact (List.nodup_append.mp this).1⟩
/-- behind a call that changed the first cells -/
theorem Sg.after {M1' : Ce} {H' : Hp} (g : Sg S Bs Γ (M1 ++ M2) σ H) (hm : M1'.map (·.1) = M1.map (·.1)) (e : Ex (hid (M1.map (·.1)) H) H') (c : CeOk S M1' H') : Sg S Bs Γ (M1' ++ M2) σ H' ∧ Ex (hid S H) (hid S H') := by
  have inS : ∀ a ∈ M1.map (·.1), a ∈ S := fun a h => by
    obtain ⟨p, hp, rfl⟩ := List.mem_map.mp h
    exact (g.ce p (List.mem_append_left _ hp)).1
  have ex : Ex (hid S H) (hid S H') := fun a o h => by
    obtain ⟨h1, h2⟩ := hid_some h
    rw [hid_out h1]
    exact e a o (by rw [hid_out fun z => h1 (inS a z)]; exact h2)
  have nd : (M1.map (·.1) ++ M2.map (·.1)).Nodup := by rw [← List.map_append]; exact g.nd
  refine ⟨⟨fun a ha => ?_, fun B hB a o h => ?_, g.len, fun i R q => ?_, fun p hp => ?_, ?_⟩, ex⟩
  · by_cases q : a ∈ M1.map (·.1)
    · rw [← hm] at q
      obtain ⟨p, hp, rfl⟩ := List.mem_map.mp q
      obtain ⟨_, m, o, h, h2⟩ := c.ce p hp
      exact ⟨o, h, m.nt _ _ h2⟩
    · obtain ⟨o, w, n⟩ := g.al a ha
      exact ⟨o, e a o (by rw [hid_out q]; exact w), n⟩
  · refine e a o ?_
    rw [hid_out fun z => ?_]
    · exact g.ex B hB a o h
    · obtain ⟨p, hp, rfl⟩ := List.mem_map.mp z
      have := (g.ce p (List.mem_append_left _ hp)).2.1 B hB
      rw [this] at h; cases h
  · obtain ⟨m, v, h1, h2⟩ := g.sl i R q
    exact ⟨m, v, h1, m _ _ _ ex h2⟩
  · rcases List.mem_append.mp hp with z | z
    · obtain ⟨h1, h2, h3⟩ := c.ce p z
      have : p.1 ∈ M1.map (·.1) := by rw [← hm]; exact List.mem_map_of_mem z
      obtain ⟨p0, hp0, e0⟩ := List.mem_map.mp this
      refine ⟨h1, fun B hB => ?_, h2, h3⟩
      rw [← e0]; exact (g.ce p0 (List.mem_append_left _ hp0)).2.1 B hB
    · obtain ⟨h1, h2, m, o, h3, h4⟩ := g.ce p (List.mem_append_right _ z)
      refine ⟨h1, h2, m, o, e _ _ ?_, m.mono _ _ _ ex h4⟩
      rw [hid_out fun w => ?_]
      · exact h3
      · exact (List.nodup_append.mp nd).2.2 _ w _ (List.mem_map_of_mem z) rfl
  · rw [List.map_append, hm]; exact nd
theorem e_callE {pre : List V → Hp → Ce → Ce → RV → Prop} {x : Str} {p : Pos} {k : Nat} {ps : List Str} {Rs : List RV} {M1' : Ce} (C : Cl X.prog X.w X.K X.mg X.base x k ps (spE pre)) (hr : Room k X.A) (ha : PA X (e :: es) (tGA S Bs Γ M (M1 ++ M2) Rs))
    (h : ∀ vs F, AllR Rs vs F → pre vs F M1 M1' Rz) (hm' : M1'.map (·.1) = M1.map (·.1)) (hg : Gl X x := by rfl) (hdb : (x == ("__debug__" : Str)) = false := by decide) (he : starEach (e :: es) X.env = (false, eval e X.env) :: starEach es X.env := by rfl)
    (hpl : (backTo pos (starEach es X.env)).any (·.1) = false := by rfl) : PE X (.Call (.Name x p) (e :: es) [] pos) (tG S Bs Γ M (M1' ++ M2) Rz) := by
  obtain ⟨f, fd, F, hm, hk, hb⟩ := C.ok
  refine PE_imp (pe_call F hr hg hm hk hb .nil pass0 ha hdb he hpl) fun σ H Q ⟨g, k⟩ => ⟨g, fun vs H1 g1 e1 ra => ?_⟩
  show spE pre (vs ++ []) H1 Q E0
  rw [List.append_nil]
  refine ⟨S, M1, M1', Rz, g1.al, g1.ceOk, h _ _ ra, hm', fun v H' e2 c r => ?_⟩
  obtain ⟨g2, e3⟩ := g1.after hm' e2 c
  exact k v H' g2 (e1.trans e3) r

/-! ### statements -/
variable {D : Ends} {rest : List Stmt}
theorem gs_setG {i : Nat} {x : Str} {p' : Pos} (g : Sg S Bs Γ M σ H) (hN : X.N.Nodup) (he : PE X e (tG S Bs Γ M M' R)) (m : Mono R) (k : ∀ σ' H', Sg S Bs (Γ.set i (some R)) M' σ' H' → SW X D rest σ' H') (hi : X.N[i]? = some x := by rfl) (hl : Nat.blt i Γ.length = true := by rfl)
    (hx : Loc X.env.scope x := by first | exact Or.inl rfl | exact Or.inr rfl) (hs : swapsWith e (some (.Name x p')) pos.line X.env = pure false := by rfl) (hf : X.fn x = true ∨ X.env.scope.names.lookup x = some .local := by first | exact .inl rfl | exact .inr rfl | assumption) : SW X D (.Assign [.Name x p'] e pos :: rest) σ H :=
  sw_cons (ps_set hN hi hx he hs hf) ⟨g, fun v H1 g1 e1 r => k _ _ (g1.set (blt hl) m r)⟩
theorem gs_retG (g : Sg S Bs Γ M σ H) (he : PE X e (tG S Bs Γ M M' R)) (k : ∀ v H', Sg S Bs Γ M' σ H' → R v (hid S H') → D.rt v H') : SW X D (.Return (some e) pos :: rest) σ H :=
  sw_cons (ps_ret he) ⟨g, fun v H1 g1 e1 r => k v H1 g1 r⟩
theorem gs_exprG (g : Sg S Bs Γ M σ H) (he : PE X e (tG S Bs Γ M M' R)) (k : ∀ H', Sg S Bs Γ M' σ H' → SW X D rest σ H') (hs : swapsWith e none pos.line X.env = pure false := by rfl) : SW X D (.Expr e pos :: rest) σ H :=
  sw_cons (ps_expr he hs) ⟨g, fun v H1 g1 e1 r => k H1 g1⟩
theorem gs_ifG {x : Bool} {A B : List Stmt} (g : Sg S Bs Γ M σ H) (hc : PT X c (tGT S Bs Γ M M' x)) (h1 : x = true → ∀ H', Sg S Bs Γ M' σ H' → SW X { D with nx := fun σ' H' => SW X D rest σ' H' } A σ H') (h2 : x = false → ∀ H', Sg S Bs Γ M' σ H' → SW X { D with nx := fun σ' H' => SW X D rest σ' H' } B σ H') : SW X D (.If c A B pos :: rest) σ H :=
  sw_cons (ps_if hc pss_SW pss_SW) ⟨g, fun H1 g1 e1 => by
    cases x with
    | true => rw [if_pos rfl]; exact h1 rfl H1 g1
    | false => rw [if_neg Bool.false_ne_true]; exact h2 rfl H1 g1⟩
/-- append to a cell that is a list -/
theorem e_app {o : Expr} {l : Addr} {ds : List PyData} {j : Nat} {apos : Pos} (ho : PE X o (tG S Bs Γ M M (isR l))) (hM0 : M[j]? = some (l, lisC ds)) (he : PE X e (tG S Bs Γ M M1 (isD d))) (hM : M1[j]? = some (l, lisC ds)) (hl : ds.length < 16000000)
    (hbase : attributeBase o "append" X.env (eval o X.env) = eval o X.env := by rfl)
    (hfew : ((backTo pos (starEach [e] X.env)).all (fun x => !x.1) && (backToKw pos (keywordEach [] X.env)).all (fun x => x.1.isSome) && decide (([e] : List Expr).length + ([] : List Keyword).length + (if ([] : List Keyword).isEmpty then 0 else 1) < 30)) = true := by rfl)
    (hline : (apos.endLine == pos.line) = true := by rfl) (hs : starEach [e] X.env = (false, eval e X.env) :: starEach [] X.env := by rfl) :
    PE X (.Call (.Attribute o "append" apos) [e] [] pos) (tG S Bs Γ M (M1.set j (l, lisC (ds ++ [d]))) (isD .none)) :=
  PE_imp (pe_bm PySem.F.plainAttrs_list PySem.F.slot_list_append PySem.F.type_list_append mt_append ho (ea_cons (isD_mono d) he ea_nil hs) hbase hfew hline hs) fun σ H Q ⟨g, k⟩ => ⟨g, fun v H1 g1 e1 r => by
    obtain rfl : v = .ref l := r
    obtain ⟨_, _, _, o, ho, xs, rfl, _⟩ := g1.ce (l, lisC ds) (List.mem_of_getElem? hM0)
    refine ⟨.inl ⟨rfl, xs, SqL.of ho⟩, g1, fun vs H2 g2 e2 ra => ?_⟩
    obtain ⟨y, ys, rfl, dy, hy⟩ := ra
    cases hy
    obtain ⟨hS, _, _, o2, ho2, xs2, rfl, d2⟩ := g2.ce (l, lisC ds) (List.mem_of_getElem? hM)
    refine ⟨l, xs2, y, rfl, rfl, ho2, szB (by rw [d2.length]; exact hl), k _ _ (g2.put hM (lisC_mono _) ⟨xs2 ++ [y], rfl, d2.append (.cons dy .nil)⟩) ?_ .non⟩
    rw [hid_upd hS]
    exact e1.trans e2⟩
/-- store in a cell that is a dict -/
theorem gs_dput {β : Type} {en : List Int → β → RV} {o i value : Expr} {l : Addr} {m : List (List Int × β)} {kc : List Int} {bv : β} {j : Nat} {pos' : Pos} (g : Sg S Bs Γ M σ H) (hu : X.A.units + 1 < cLine) (me : MonoE en) (hv : PE X value (tG S Bs Γ M M1 (en kc bv)))
    (ho : ∀ σ H, Sg S Bs Γ M1 σ H → PE X o (tR S σ H (isR l))) (hi : ∀ σ H, Sg S Bs Γ M1 σ H → PE X i (tR S σ H (isD (vec kc)))) (hM : M1[j]? = some (l, dicC en m)) (hl : m.length < 16000000)
    (k : ∀ H', Sg S Bs Γ (M1.set j (l, dicC en (pt m kc bv))) σ H' → SW X D rest σ H') (hs : swapsWith value (some (.Subscript o i pos')) pos.line X.env = pure false := by rfl) : SW X D (.Assign [.Subscript o i pos'] value pos :: rest) σ H :=
  sw_cons (ps_dput hu (e_of ho) (e_of hi) hv hs) ⟨g, fun v H1 g1 e1 rv => ⟨g1, fun x H2 g2 e2 rx => ⟨g2, fun y H3 g3 e3 ry => by
    obtain rfl : x = .ref l := rx
    obtain ⟨q, rfl, hq⟩ := ry.vecI
    obtain ⟨hS, _, _, o3, ho3, kvs, rfl, d3⟩ := g3.ce (l, dicC en m) (List.mem_of_getElem? hM)
    refine ⟨l, _, rfl, DPut.t (k := kc.map Sum.inl) ho3 ?_ (szB (by rw [d3.length]; exact hl)), k _ (g3.put hM (dicC_mono me _) ⟨_, rfl, d3.put (me _ _ _ _ _ (e2.trans e3) rv)⟩)⟩
    rw [List.map_map]
    exact hid_le _ _ hq⟩⟩⟩
/-- is in a cell that is a dict -/
theorem g_inT {β : Type} {en : List Int → β → RV} {l : Addr} {m : List (List Int × β)} {kc : List Int} {j : Nat} (g : Sg S Bs Γ M σ H) (hu : X.A.units + 1 < cLine) (hM : M[j]? = some (l, dicC en m)) (ha : PE X a (tR S σ H (isD (vec kc)))) (hb : PE X b (tR S σ H (isR l))) (hk : behindInMarks .In b = false := by rfl) :
    PE X (.Compare a [.In] [b] pos) (tR S σ H (isD (.bool (lk m kc).isSome))) :=
  PE_imp (pe_cmp (pc_din hu ha hb) hk) fun σ' H' Q ⟨q, ex, al, k⟩ => ⟨q, ex, al, fun y H1 e1 ry => ⟨q, ex.trans e1, al.ex e1, fun x H2 e2 rx => by
    obtain rfl : x = .ref l := rx
    obtain ⟨p, rfl, hp⟩ := ry.vecI
    obtain ⟨hS, _, _, o3, ho3, kvs, rfl, d3⟩ := g.ce (l, dicC en m) (List.mem_of_getElem? hM)
    have h2 := ((ex.trans e1).trans e2) _ _ ho3
    refine ⟨l, _, rfl, DGet.t (k := kc.map Sum.inl) h2 ?_, ?_⟩
    · rw [List.map_map]; exact e2 _ _ (hid_le _ _ hp)
    · rw [(d3.look kc).1]; exact k _ _ (e1.trans e2) (.bl _)⟩⟩
theorem t_inT {β : Type} {en : List Int → β → RV} {l : Addr} {m : List (List Int × β)} {kc : List Int} {j : Nat} (g : Sg S Bs Γ M σ H) (hu : X.A.units + 1 < cLine) (hM : M[j]? = some (l, dicC en m)) (ha : PE X a (tR S σ H (isD (vec kc)))) (hb : PE X b (tR S σ H (isR l))) (hk : behindInMarks .In b = false := by rfl) :
    PT X (.Compare a [.In] [b] pos) (tRT S σ H (lk m kc).isSome) :=
  PT_imp (pt_cmp (pc_din hu ha hb) hk) fun σ' H' Q ⟨q, ex, al, k⟩ => ⟨q, ex, al, fun y H1 e1 ry => ⟨q, ex.trans e1, al.ex e1, fun x H2 e2 rx => by
    obtain rfl : x = .ref l := rx
    obtain ⟨p, rfl, hp⟩ := ry.vecI
    obtain ⟨hS, _, _, o3, ho3, kvs, rfl, d3⟩ := g.ce (l, dicC en m) (List.mem_of_getElem? hM)
    have h2 := ((ex.trans e1).trans e2) _ _ ho3
    refine ⟨l, _, rfl, DGet.t (k := kc.map Sum.inl) h2 ?_, ?_⟩
    · rw [List.map_map]; exact e2 _ _ (hid_le _ _ hp)
    · rw [(d3.look kc).1]; exact ⟨_, rfl, k _ (e1.trans e2)⟩⟩⟩
theorem g_ninT {β : Type} {en : List Int → β → RV} {l : Addr} {m : List (List Int × β)} {kc : List Int} {j : Nat} (g : Sg S Bs Γ M σ H) (hu : X.A.units + 1 < cLine) (hM : M[j]? = some (l, dicC en m)) (ha : PE X a (tR S σ H (isD (vec kc)))) (hb : PE X b (tR S σ H (isR l))) (hk : behindInMarks .NotIn b = false := by rfl) :
    PE X (.Compare a [.NotIn] [b] pos) (tR S σ H (isD (.bool (!(lk m kc).isSome)))) :=
  PE_imp (pe_cmp (pc_dnotin hu ha hb) hk) fun σ' H' Q ⟨q, ex, al, k⟩ => ⟨q, ex, al, fun y H1 e1 ry => ⟨q, ex.trans e1, al.ex e1, fun x H2 e2 rx => by
    obtain rfl : x = .ref l := rx
    obtain ⟨p, rfl, hp⟩ := ry.vecI
    obtain ⟨hS, _, _, o3, ho3, kvs, rfl, d3⟩ := g.ce (l, dicC en m) (List.mem_of_getElem? hM)
    have h2 := ((ex.trans e1).trans e2) _ _ ho3
    refine ⟨l, _, rfl, DGet.t (k := kc.map Sum.inl) h2 ?_, ?_⟩
    · rw [List.map_map]; exact e2 _ _ (hid_le _ _ hp)
    · rw [(d3.look kc).1]; exact k _ _ (e1.trans e2) (.bl _)⟩⟩
theorem t_ninT {β : Type} {en : List Int → β → RV} {l : Addr} {m : List (List Int × β)} {kc : List Int} {j : Nat} (g : Sg S Bs Γ M σ H) (hu : X.A.units + 1 < cLine) (hM : M[j]? = some (l, dicC en m)) (ha : PE X a (tR S σ H (isD (vec kc)))) (hb : PE X b (tR S σ H (isR l))) (hk : behindInMarks .NotIn b = false := by rfl) :
    PT X (.Compare a [.NotIn] [b] pos) (tRT S σ H (!(lk m kc).isSome)) :=
  PT_imp (pt_cmp (pc_dnotin hu ha hb) hk) fun σ' H' Q ⟨q, ex, al, k⟩ => ⟨q, ex, al, fun y H1 e1 ry => ⟨q, ex.trans e1, al.ex e1, fun x H2 e2 rx => by
    obtain rfl : x = .ref l := rx
    obtain ⟨p, rfl, hp⟩ := ry.vecI
    obtain ⟨hS, _, _, o3, ho3, kvs, rfl, d3⟩ := g.ce (l, dicC en m) (List.mem_of_getElem? hM)
    have h2 := ((ex.trans e1).trans e2) _ _ ho3
    refine ⟨l, _, rfl, DGet.t (k := kc.map Sum.inl) h2 ?_, ?_⟩
    · rw [List.map_map]; exact e2 _ _ (hid_le _ _ hp)
    · rw [(d3.look kc).1]; exact ⟨_, rfl, k _ (e1.trans e2)⟩⟩⟩
/-- what a cell that is a dict holds -/
theorem g_getT {β : Type} {en : List Int → β → RV} {l : Addr} {m : List (List Int × β)} {kc : List Int} {bv : β} {j : Nat} (g : Sg S Bs Γ M σ H) (hu : X.A.units + 1 < cLine) (me : MonoE en) (hM : M[j]? = some (l, dicC en m)) (ha : PE X a (tR S σ H (isR l))) (hb : PE X b (tR S σ H (isD (vec kc)))) (hk : lk m kc = some bv)
    (hs : NoSl b := by exact fun _ _ => rfl) : PE X (.Subscript a b pos) (tR S σ H (en kc bv)) :=
  PE_imp (pe_dget hu ha hb hs) fun σ' H' Q ⟨q, ex, al, k⟩ => ⟨q, ex, al, fun x H1 e1 rx => ⟨q, ex.trans e1, al.ex e1, fun y H2 e2 ry => by
    obtain rfl : x = .ref l := rx
    obtain ⟨p, rfl, hp⟩ := ry.vecI
    obtain ⟨hS, _, _, o3, ho3, kvs, rfl, d3⟩ := g.ce (l, dicC en m) (List.mem_of_getElem? hM)
    have e3 := (ex.trans e1).trans e2
    obtain ⟨v, h1, h2⟩ := (d3.look kc).2 bv hk
    refine ⟨l, v, rfl, ?_, k _ _ (e1.trans e2) (me _ _ _ _ _ (hid_ex e3) h2)⟩
    have := DGet.t (k := kc.map Sum.inl) (b := p) (e3 _ _ ho3) (by rw [List.map_map]; exact hid_le _ _ hp)
    rw [h1] at this; exact this⟩⟩
end
end N34

set_option Elab.async false
set_option linter.all false
set_option maxRecDepth 100000
set_option maxHeartbeats 1000000
/-! {k: v}, the key a tuple -/
namespace N34
open PySem PySem.Spec PyProof.Rows L2
section
variable {X : Cx}
def qDisp1T (p : Addr) (Q : VK) : List (V × V) → Hp → Prop := fun ps H2 => ∃ x y, ps = [(x, y)] ∧ H2 p = some (.dT []) ∧ ∃ (k : List Key) (b : Addr), x = .ref b ∧ H2 b = some (.tup (k.map kV)) ∧ Q (.ref p) (upd H2 p (.dT [(k, y)]))
def tDisp1T (tk tv : TE) : TE := fun σ H Q => ∀ p, H p = none → tk σ (upd H p (.dT [])) fun x H1 => tv σ H1 fun y H2 => qDisp1T p Q [(x, y)] H2
theorem pe_disp1T {pos : Pos} {k v : Expr} {tk tv : TE} (hu : X.A.units + 1 < cLine) (hk : PE X k tk) (hv : PE X v tv) : PE X (.Dict [some k] [v] pos) (tDisp1T tk tv) := by
  refine ⟨fun pins s σ H Q I q => ?_⟩
  have hn := I.hok.fresh (Nat.le_refl s.heap.objs.size)
  have I1 := I.laid (a := s.heap.objs.size) (o := .dT []) (h' := s.heap.push { cls := .type "dict", data := .dict #[] }) (t' := s.toks) (fun _ _ q => Heap.get?_push_of_some _ q) (Nat.le_refl _) (dt_empty s.heap I.big)
  rw [show eval (.Dict [some k] [v] pos) X.env = _ from arm_eval_Dict .., show (evalEachOpt [some k] X.env).zip ((evalEach [v] X.env).map fun v => do let x ← v; standAt pos; pure x) = (pairTrees [some k] [v] X.env pos).map fun p => (some p.1, p.2) from rfl, dictDisplay_pairs (pairTrees [some k] [v] X.env pos) (by simp [pairTrees]) (by show 1 < 17; decide)]
  refine wpAny_bind (wpAny_standAt (wpAny_bind (wpAny_subDictH (knd := tupleKind (mixKind X.prog X.w)) (show (tupleKind (mixKind X.prog X.w)).room X.A from Nat.lt_of_le_of_lt (Nat.le_add_right _ 1) hu) (by show 1 ≤ 15; decide)
    (thn ((pps_cons hk hv pps_nil).run pins _ σ _ (qDisp1T s.heap.objs.size Q) I1 (q _ hn)) fun ws s2 ⟨ps, H2, I2, rel, x, y, e1, e2, kk, b, e3, e4, q2⟩ => ?_))))
  subst e1 e3
  obtain ⟨u, w, rfl, r1, r2⟩ : ∃ u w, ws = [(u, w)] ∧ RelV (.ref b) u ∧ RelV y w := by
    cases rel with
    | cons r rr => cases rr; exact ⟨_, _, rfl, r.1, r.2⟩
  obtain rfl : u = Value.ref b := r1
  obtain ⟨z, hd, xs, rel, dd⟩ := dt_of I2.hok e2
  cases rel
  refine ⟨[(kk, b, w)], ⟨rfl, rfl, key_of I2.hok e4, trivial⟩, dd, fun h' tk dd' hs => wpAny_pure ⟨.ref s.heap.objs.size, _, ?_, rfl, q2⟩⟩
  obtain ⟨o, es, ep, hq, h2, h3, h4, h5, h6⟩ := dd'
  refine d_write I2 (by rw [e2]; exact True.intro) hs ⟨o, hq⟩ ⟨by show 1 ≤ sizeLine; decide, hd, [(kk, b, w)], .cons ⟨rfl, ?_, r2⟩ .nil, o, es, ep, hq, h2, h3, h4, h6⟩
  rw [upd_ne (ne_of e4 e2 (fun z => nomatch z))]
  exact e4
end
end N34

set_option Elab.async false
set_option linter.all false
set_option maxRecDepth 100000
set_option maxHeartbeats 1000000
/-! wp of expressions, new cells, loops -/
namespace N34
open PySem PySem.Spec PyProof.Rows L2

/-- evaluating e from these slots and this heap reaches Q -/
structure SE (X : Cx) (e : Expr) (σ : L2.St) (H : Hp) (Q : VK) : Prop where
  run : ∀ pins s, Inv X pins σ H s → wpAny (model X.prog X.w) X.A (eval e X.env) (EP X pins σ Q) X.xe s
section
variable {X : Cx} {S S' : List Addr} {Bs : List Hp} {Γ : Ga} {M M' M1 M2 : Ce} {R Ra Rb Rz : RV} {a b e c elt tg iter : Expr} {es : List Expr} {pos : Pos} {d : PyData} {σ : L2.St} {H : Hp} {Q : VK} {D : Ends} {rest : List Stmt} {α β : Type}
theorem pe_SE : PE X e (fun σ H Q => SE X e σ H Q) := ⟨fun pins s σ H Q I h => h.run pins s I⟩
theorem se_of {t : TE} (h : PE X e t) (q : t σ H Q) : SE X e σ H Q := ⟨fun pins s I => h.run pins s σ H Q I q⟩
theorem SE_mono {Q' : VK} (h : SE X e σ H Q) (f : ∀ v H', Q v H' → Q' v H') : SE X e σ H Q' := ⟨fun pins s I => wpAny_mono (h.run pins s I) (fun u s' ⟨v, H', I', r, q⟩ => ⟨v, H', I', r, f _ _ q⟩) fun _ _ x => x⟩
theorem se_R (h : PE X e (tR S σ H R)) (al : Al S H) (k : ∀ v H2, Ex H H2 → R v (hid S H2) → Q v H2) : SE X e σ H Q := se_of h ⟨rfl, Ex.refl _, al, k⟩
theorem se_g (g : Sg S Bs Γ M σ H) (h : PE X e (tR S σ H R)) (k : ∀ v H2, Sg S Bs Γ M σ H2 → Ex H H2 → R v (hid S H2) → Q v H2) : SE X e σ H Q := se_R h g.al fun v H2 e r => k v H2 (g.next e) e r
theorem se_G (g : Sg S Bs Γ M σ H) (h : PE X e (tG S Bs Γ M M' R)) (k : ∀ v H2, Sg S Bs Γ M' σ H2 → Ex (hid S H) (hid S H2) → R v (hid S H2) → Q v H2) : SE X e σ H Q := se_of h ⟨g, k⟩
/-! ### statements over SE -/
theorem sx_set {i : Nat} {x : Str} {p' : Pos} (hN : X.N.Nodup) (he : SE X e σ H fun v H1 => SW X D rest (σ.set i (some v)) H1) (hi : X.N[i]? = some x := by rfl) (hx : Loc X.env.scope x := by first | exact Or.inl rfl | exact Or.inr rfl) (hs : swapsWith e (some (.Name x p')) pos.line X.env = pure false := by rfl)
    (hf : X.fn x = true ∨ X.env.scope.names.lookup x = some .local := by first | exact .inl rfl | exact .inr rfl | assumption) : SW X D (.Assign [.Name x p'] e pos :: rest) σ H := sw_cons (ps_set hN hi hx pe_SE hs hf) he
theorem sx_ret (he : SE X e σ H D.rt) : SW X D (.Return (some e) pos :: rest) σ H := sw_cons (ps_ret pe_SE) he
theorem sx_expr (he : SE X e σ H fun _ H1 => SW X D rest σ H1) (hs : swapsWith e none pos.line X.env = pure false := by rfl) : SW X D (.Expr e pos :: rest) σ H := sw_cons (ps_expr pe_SE hs) he
theorem sx_par2 {i j : Nat} {x y : Str} {px py pt pt2 : Pos} {kt k2 : Nat} (hc : X.calm = true) (hN : X.N.Nodup) (h : SE X a σ H fun v H1 => SE X b σ H1 fun w H2 => SW X D rest ((σ.set i (some v)).set j (some w)) H2)
    (hi : X.N[i]? = some x := by rfl) (hj : X.N[j]? = some y := by rfl) (hij : i ≠ j := by decide) (hx : X.env.scope.names.lookup x = some .local := by rfl) (hy : X.env.scope.names.lookup y = some .local := by rfl)
    (hw : swappedStores [.Tuple [.Name x px, .Name y py] kt pt] (.Tuple [a, b] k2 pt2) X.env = pure (some [x, y]) := by rfl) (hs : starEach [a, b] X.env = (false, eval a X.env) :: starEach [b] X.env := by rfl) (hs2 : starEach [b] X.env = (false, eval b X.env) :: starEach [] X.env := by rfl) :
    SW X D (.Assign [.Tuple [.Name x px, .Name y py] kt pt] (.Tuple [a, b] k2 pt2) pos :: rest) σ H :=
  sw_cons (ps_par hc hN hi hj hij hx hy (pa_cons pe_SE (pa_cons pe_SE pa_nil hs2) hs) hw) (SE_mono h fun v H1 q => SE_mono q fun w H2 q2 => ⟨v, w, rfl, q2⟩)
theorem sx_par3 {i j l : Nat} {x y z : Str} {px py pz pt pt2 : Pos} {kt k2 : Nat} (hc : X.calm = true) (hN : X.N.Nodup) (h : SE X a σ H fun v H1 => SE X b σ H1 fun w H2 => SE X c σ H2 fun u H3 => SW X D rest (((σ.set i (some v)).set j (some w)).set l (some u)) H3)
    (hi : X.N[i]? = some x := by rfl) (hj : X.N[j]? = some y := by rfl) (hl : X.N[l]? = some z := by rfl) (hij : i ≠ j := by decide) (hil : i ≠ l := by decide) (hjl : j ≠ l := by decide) (hx : X.env.scope.names.lookup x = some .local := by rfl) (hy : X.env.scope.names.lookup y = some .local := by rfl) (hz : X.env.scope.names.lookup z = some .local := by rfl)
    (hw : swappedStores [.Tuple [.Name x px, .Name y py, .Name z pz] kt pt] (.Tuple [a, b, c] k2 pt2) X.env = pure (some [x, y, z]) := by rfl) (hs : starEach [a, b, c] X.env = (false, eval a X.env) :: starEach [b, c] X.env := by rfl) (hs2 : starEach [b, c] X.env = (false, eval b X.env) :: starEach [c] X.env := by rfl) (hs3 : starEach [c] X.env = (false, eval c X.env) :: starEach [] X.env := by rfl) :
    SW X D (.Assign [.Tuple [.Name x px, .Name y py, .Name z pz] kt pt] (.Tuple [a, b, c] k2 pt2) pos :: rest) σ H :=
  sw_cons (ps_par3 hc hN hi hj hl hij hil hjl hx hy hz (pa_cons pe_SE (pa_cons pe_SE (pa_cons pe_SE pa_nil hs3) hs2) hs) hw) (SE_mono h fun v H1 q => SE_mono q fun w H2 q2 => SE_mono q2 fun u H3 q3 => ⟨v, w, u, rfl, q3⟩)

/-! ### new cells -/
/-- a new cell, not seen in the slots -/
theorem Sg.fresh {l : Addr} {C : CR} {o : HO} {H' : Hp} (g : Sg S Bs Γ M σ H) (e : Ex H H') (hl : H' l = none) (m : MonoC C) (h : C o (hid (l :: S) (upd H' l o))) : Sg (l :: S) Bs Γ ((l, C) :: M) σ (upd H' l o) :=
  g.cell (e.trans (Ex.new hl)) (e.free hl) upd_same m h
theorem se_newD {en : List Int → β → RV} (g : Sg S Bs Γ M σ H) (me : MonoE en) (k : ∀ p H1, p ∉ S → Sg (p :: S) Bs Γ ((p, dicC en []) :: M) σ H1 → Q (.ref p) H1) : SE X (.Dict [] [] pos) σ H Q :=
  se_of pe_dnewT fun p hp => k p _ (g.al.out hp) (g.fresh (Ex.refl _) hp (dicC_mono me _) ⟨[], rfl, trivial⟩)
theorem se_newL {ds : List PyData} (g : Sg S Bs Γ M σ H) (h : PA X es (tRA S σ H (ds.map isD))) (k : ∀ p H1, p ∉ S → Sg (p :: S) Bs Γ ((p, lisC ds) :: M) σ H1 → Q (.ref p) H1) (hl : ds.length ≤ 100000 := by exact Nat.le_of_ble_eq_true rfl) : SE X (.List es pos) σ H Q :=
  se_of (pe_lst h) ⟨rfl, Ex.refl _, g.al, fun vs H1 e1 rs => ⟨sz (by rw [rs.dt.length]; exact hl), fun p hp => k p _ ((g.al.ex e1).out hp) (g.fresh e1 hp (lisC_mono _) ⟨vs, rfl, rs.dt.mono (hid_cons (Ex.new hp) hp)⟩)⟩⟩
theorem se_newLs {ds : List PyData} {p : Pos} (g : Sg S Bs Γ M σ H) (hm : X.mg "list" = none) (ha : PE X a (tR S σ H (isD (.list ds)))) (k : ∀ p H1, p ∉ S → Sg (p :: S) Bs Γ ((p, lisC ds) :: M) σ H1 → Q (.ref p) H1)
    (hg : Gl X "list" := by rfl) (hs : starEach [a] X.env = (false, eval a X.env) :: starEach [] X.env := by rfl) : SE X (.Call (.Name "list" p) [a] [] pos) σ H Q :=
  se_of (pe_callTy call_list_of hg hm (by decide +kernel) (ra_1 ha hs) (he := hs)) ⟨rfl, Ex.refl _, g.al, fun vs H1 e1 h => by
    obtain ⟨v, ws, rfl, h1, h2⟩ := h
    cases h2
    obtain ⟨a, xs, rfl, h3, h4⟩ := h1.lstI
    exact ⟨a, xs, rfl, .inl (SqL.of (hid_le _ _ h3)), fun l hl => k l _ ((g.al.ex e1).out hl) (g.fresh e1 hl (lisC_mono _) ⟨xs, rfl, h4.mono (hid_cons (Ex.new hl) hl)⟩)⟩⟩
theorem se_newD1 {en : List Int → β → RV} {kx vx : Expr} {kc : List Int} {bv : β} (g : Sg S Bs Γ M σ H) (hu : X.A.units + 1 < cLine) (me : MonoE en) (hk : ∀ S' M' H', Sg S' Bs Γ M' σ H' → PE X kx (tR S' σ H' (isD (vec kc)))) (hv : ∀ S' M' H', Sg S' Bs Γ M' σ H' → PE X vx (tR S' σ H' (en kc bv)))
    (k : ∀ p H1, p ∉ S → Sg (p :: S) Bs Γ ((p, dicC en [(kc, bv)]) :: M) σ H1 → Q (.ref p) H1) : SE X (.Dict [some kx] [vx] pos) σ H Q :=
  se_of (pe_disp1T hu pe_SE pe_SE) fun p hp => by
    have g1 : Sg (p :: S) Bs Γ ((p, dicC en []) :: M) σ (upd H p (.dT [])) := g.fresh (Ex.refl _) hp (dicC_mono me _) ⟨[], rfl, trivial⟩
    refine se_g g1 (hk _ _ _ g1) fun x H1 g2 _ rx => se_g g2 (hv _ _ _ g2) fun y H2 g3 e3 ry => ?_
    obtain ⟨b, rfl, hb⟩ := rx.vecI
    obtain ⟨_, _, _, o, ho, kvs, rfl, dk⟩ := g3.ce (p, dicC en []) List.mem_cons_self
    have ek : kvs = [] := List.length_eq_zero_iff.mp dk.length
    subst ek
    refine ⟨.ref b, y, rfl, ho, kc.map Sum.inl, b, rfl, by rw [List.map_map]; exact e3 _ _ (hid_le _ _ hb), k p _ (g.al.out hp) ?_⟩
    exact g3.put (i := 0) (C' := dicC en [(kc, bv)]) rfl (dicC_mono me _) ⟨_, rfl, rfl, ry, trivial⟩

/-! ### a list that is not changed any more -/
theorem Sg.freeze {S0 : List Addr} {l : Addr} {ds : List PyData} {i j : Nat} (g : Sg S0 Bs Γ M σ H) (hS : ∀ b ∈ S, b ∈ S0) (hl : l ∉ S) (hM : M[j]? = some (l, lisC ds)) (hi : Γ[i]? = some (some (isR l))) (hc : ∀ p ∈ M.eraseIdx j, p.1 ∈ S) : Sg S Bs (Γ.set i (some (isD (.list ds)))) (M.eraseIdx j) σ H := by
  have sub : List.Sublist (M.eraseIdx j) M := List.eraseIdx_sublist _ _
  refine ⟨fun a h => g.al a (hS a h), g.ex, by rw [List.length_set]; exact g.len, fun n R h => ?_, fun p hp => ?_, g.nd.sublist (sub.map _)⟩
  · by_cases e : i = n
    · subst e
      have hi' : i < Γ.length := (List.getElem?_eq_some_iff.mp hi).1
      rw [List.getElem?_set_self hi'] at h
      have e2 : isD (.list ds) = R := by cases h; rfl
      subst e2
      obtain ⟨_, v, h1, h2⟩ := g.sl i _ hi
      obtain rfl : v = .ref l := h2
      obtain ⟨_, _, _, o, ho, xs, rfl, dx⟩ := g.ce (l, lisC ds) (List.mem_of_getElem? hM)
      exact ⟨isD_mono _, _, h1, .lst (by rw [hid_out hl]; exact ho) (dx.mono (hid_more hS))⟩
    · rw [List.getElem?_set_ne e] at h
      obtain ⟨m, v, h1, h2⟩ := g.sl n R h
      exact ⟨m, v, h1, m _ _ _ (hid_more hS) h2⟩
  · obtain ⟨_, h2, m, o, h3, h4⟩ := g.ce p (sub.subset hp)
    exact ⟨hc p hp, h2, m, o, h3, m.mono _ _ _ (hid_more hS) h4⟩
/-- a cell that is not followed any more -/
theorem Sg.drop (g : Sg S Bs Γ M σ H) (j : Nat) : Sg S Bs Γ (M.eraseIdx j) σ H :=
  ⟨g.al, g.ex, g.len, g.sl, fun p hp => g.ce p ((List.eraseIdx_sublist _ _).subset hp), g.nd.sublist ((List.eraseIdx_sublist _ _).map _)⟩
/-- a slot's any is some -/
theorem Sg.at_ex {τ : Type} {i : Nat} {P : τ → Prop} {F : τ → RV} (g : Sg S Bs Γ M σ H) (hi : Γ[i]? = some (some (fun v H => ∃ t, P t ∧ F t v H))) (hm : ∀ t, Mono (F t)) : ∃ t, P t ∧ Sg S Bs (Γ.set i (some (F t))) M σ H := by
  obtain ⟨_, v, h1, t, pt, h2⟩ := g.sl i _ hi
  refine ⟨t, pt, g.al, g.ex, by rw [List.length_set]; exact g.len, fun n R h => ?_, g.ce, g.nd⟩
  by_cases e : i = n
  · subst e
    have hi' : i < Γ.length := (List.getElem?_eq_some_iff.mp hi).1
    rw [List.getElem?_set_self hi'] at h
    have e2 : F t = R := by cases h; rfl
    subst e2
    exact ⟨hm t, v, h1, h2⟩
  · rw [List.getElem?_set_ne e] at h
    exact g.sl n R h

/-! ### a for loop with a state z -/
theorem gs_forZ {ζ : Type} {xs : List α} {enc : α → RV} {gg : TG} {body : List Stmt} (g : Sg S Bs Γ M σ H) (hp : PassesOwn (model X.prog X.w) X.A X.env X.xe) (hc : X.calm = true) (hi : PI X tg iter (tW S σ H xs enc)) (hg : PG X tg gg)
    (Γi : List α → ζ → Ga) (Mi : List α → ζ → Ce) (J : List α → ζ → Prop) (h0 : ∀ H', Sg S Bs Γ M σ H' → ∃ z, J [] z ∧ Sg S Bs (Γi [] z) (Mi [] z) σ H')
    (h : ∀ B pre x post, xs = pre ++ x :: post → ∀ z, J pre z → ∀ σ' H' v, Sg S (B :: Bs) (Γi pre z) (Mi pre z) σ' H' → enc x v (hid S H') →
        Stored gg v σ' H' fun σ2 => SW X { D with nx := fun σ3 H3 => ∃ z', J (pre ++ [x]) z' ∧ Sg S (B :: Bs) (Γi (pre ++ [x]) z') (Mi (pre ++ [x]) z') σ3 H3, ct := fun σ3 H3 => ∃ z', J (pre ++ [x]) z' ∧ Sg S (B :: Bs) (Γi (pre ++ [x]) z') (Mi (pre ++ [x]) z') σ3 H3, bk := fun σ3 H3 => SW X D rest σ3 H3 } body σ2 H')
    (hd : ∀ z, J xs z → ∀ σ' H', Sg S Bs (Γi xs z) (Mi xs z) σ' H' → SW X D rest σ' H') (hs : ∀ x, foldedSetIterable iter X.env x = pure x := by intro _; rfl) : SW X D (.For tg iter body [] pos :: rest) σ H := by
  refine sw_for hp hc g.al hi hg (fun H1 e1 al1 => ⟨fun pre σ' H' => ∃ z, J pre z ∧ Sg S (hid S H1 :: Bs) (Γi pre z) (Mi pre z) σ' H', ?_, fun pre x post hx σ' H' eF al' ⟨z, jz, pv⟩ v H2 e2 al2 en => ?_, fun σ' H' _ _ ⟨z, jz, pv⟩ => hd z jz σ' H' pv.unbase⟩) hs
  · obtain ⟨z, jz, g1⟩ := h0 H1 (g.next e1)
    exact ⟨z, jz, g1.base⟩
  obtain ⟨σ2, gs, q⟩ := (h (hid S H1) pre x post hx z jz σ' H2 v (pv.next e2) en).ex
  have cv : ∀ σ3 H3, (∃ z', J (pre ++ [x]) z' ∧ Sg S (hid S H1 :: Bs) (Γi (pre ++ [x]) z') (Mi (pre ++ [x]) z') σ3 H3) → Ex (hid S H1) (hid S H3) ∧ Al S H3 ∧ ∃ z', J (pre ++ [x]) z' ∧ Sg S (hid S H1 :: Bs) (Γi (pre ++ [x]) z') (Mi (pre ++ [x]) z') σ3 H3 := fun σ3 H3 ⟨z', jz', g3⟩ =>
    ⟨fun a o z => by rw [hid_out (hid_some z).1]; exact g3.ex _ List.mem_cons_self _ _ z, g3.al, z', jz', g3⟩
  refine ⟨σ2, gs, ⟨fun pins s I => wpAny_mono (q.run pins s I) (fun f s' z => ?_) fun _ _ z => z⟩⟩
  cases f with
  | next => obtain ⟨σ', H', I', q⟩ := z; exact ⟨σ', H', I', cv _ _ q⟩
  | brk => exact z
  | cont => obtain ⟨σ', H', I', q⟩ := z; exact ⟨σ', H', I', cv _ _ q⟩
  | ret u => exact z

/-! ### for k, v in d.items() -/
def frzC {β : Type} (en : List Int → β → RV) (m : List (List Int × β)) (od : Obj) (kvs : List (List Key × V)) : CR := fun o F => o = .frz od (.dT kvs) ∧ DiA en F kvs m
theorem frzC_mono {en : List Int → β → RV} (me : MonoE en) {m : List (List Int × β)} {od : Obj} {kvs : List (List Key × V)} : MonoC (frzC en m od kvs) := ⟨fun o H H' e ⟨h1, h2⟩ => ⟨h1, h2.mono me e⟩, fun o H ⟨h, _⟩ => by rw [h]; exact fun _ z => nomatch z⟩
theorem DiA.get {en : List Int → β → RV} {F : Hp} : ∀ {kvs : List (List Key × V)} {m : List (List Int × β)} {i : Nat} {p : List Int × β}, DiA en F kvs m → m[i]? = some p → ∃ v, kvs[i]? = some (p.1.map Sum.inl, v) ∧ en p.1 p.2 v F
  | [], [], _, _, _, h => by simp at h
  | kv :: kvs, q :: m, 0, p, ⟨h1, h2, h3⟩, h => by
    simp at h; subst h
    obtain ⟨k, v⟩ := kv
    exact ⟨v, by simp [show k = _ from h1], h2⟩
  | kv :: kvs, q :: m, i + 1, p, ⟨h1, h2, h3⟩, h => by
    obtain ⟨v, e1, e2⟩ := DiA.get (i := i) h3 (by simpa using h)
    exact ⟨v, by simpa using e1, e2⟩
end
end N34

set_option Elab.async false
set_option linter.all false
set_option maxRecDepth 100000
set_option maxHeartbeats 1000000
/-! walks over dicts -/
namespace N34
open PySem PySem.Spec PyProof.Rows L2
section
variable {X : Cx} {S S' : List Addr} {Bs : List Hp} {Γ : Ga} {M M' M1 M2 : Ce} {R Ra Rb Rz : RV} {a b e c elt tg iter : Expr} {es : List Expr} {pos : Pos} {d : PyData} {σ : L2.St} {H : Hp} {Q : VK} {D : Ends} {rest : List Stmt} {α β : Type} {en : List Int → β → RV} {m : List (List Int × β)} {l : Addr} {j : Nat}
theorem Sg.locked (g : Sg S Bs Γ M σ H) (me : MonoE en) (hM : M[j]? = some (l, dicC en m)) : ∃ kvs, H l = some (.dT kvs) ∧ ∀ od, Sg S Bs Γ (M.set j (l, frzC en m od kvs)) σ (upd H l (.frz od (.dT kvs))) := by
  obtain ⟨_, _, _, o, ho, kvs, rfl, dk⟩ := g.ce (l, dicC en m) (List.mem_of_getElem? hM)
  exact ⟨kvs, ho, fun od => g.put hM (frzC_mono me) ⟨rfl, dk⟩⟩
theorem r_lock (g : Sg S Bs Γ M σ H) (me : MonoE en) (hM : M[j]? = some (l, dicC en m)) (h : ∀ od kvs H', Sg S Bs Γ (M.set j (l, frzC en m od kvs)) σ H' → PE X e (tR S σ H' R)) : PE X e (tR S σ H R) :=
  PE_imp (pe_lock pe_SE) fun σ' H' Q ⟨es, ex, al, k⟩ => by
    subst es
    obtain ⟨kvs, h1, gl⟩ := (g.next ex).locked me hM
    refine ⟨l, .dT kvs, h1, trivial, fun od => ?_⟩
    have hS := ((gl od).ce (l, frzC en m od kvs) (List.mem_of_getElem? (by rw [List.getElem?_set_self (List.getElem?_eq_some_iff.mp hM).1]))).1
    refine se_R (h od kvs _ (gl od)) (gl od).al fun v H2 e2 r => ⟨e2 _ _ upd_same, k v _ (fun a o ha => ?_) (by rw [hid_upd hS]; exact r)⟩
    by_cases q : a = l
    · subst q
      rw [h1] at ha
      cases ha
      exact upd_same
    · rw [upd_ne q]; exact e2 _ _ (by rw [upd_ne q]; exact ha)
/-- the keys of a locked dict -/
theorem w_keys {od : Obj} {kvs : List (List Key × V)} (g : Sg S Bs Γ M σ H) (hM : M[j]? = some (l, frzC en m od kvs)) (he : PE X e (tR S σ H (isR l))) : PI X tg e (tWE S σ H (m.map (·.1)) fun k => isD (vec k)) := by
  obtain ⟨hS, _, _, o, ho, rfl, dk⟩ := g.ce (l, frzC en m od kvs) (List.mem_of_getElem? hM)
  have hlen : kvs.length = m.length := dk.length
  refine PI_imp (pi_keys he) fun σ' H' Q ⟨q, ex, al, k⟩ => ⟨q, ex, al, fun v H1 e1 r => ?_⟩
  obtain rfl : v = .ref l := r
  refine ⟨l, od, rfl, .inr ⟨kvs, e1 _ _ (ex _ _ ho), k _ H1 e1 ⟨fun i S' H2 hi e2 _ _ => ⟨e2 _ _ (e1 _ _ (ex _ _ ho)), ?_⟩, fun S' H2 e2 _ _ => ⟨e2 _ _ (e1 _ _ (ex _ _ ho)), ?_⟩, fun i a S' H2 x H3 hi e2 _ al2 y => ?_⟩⟩⟩
  · rw [List.length_map] at hi; omega
  · rw [List.length_map]; omega
  · obtain ⟨rfl, k2, v, q2, hk, rfl, hq⟩ := y
    refine ⟨Ex.refl _, ?_⟩
    rw [List.getElem?_map] at hi
    cases c : m[i]? with
    | none => rw [c] at hi; cases hi
    | some p =>
      rw [c] at hi
      obtain rfl : p.1 = a := Option.some.inj hi
      obtain ⟨v2, h1, _⟩ := dk.get c
      rw [h1] at hk
      cases hk
      rw [List.map_map] at hq
      exact Dt.vecO (by rw [hid_out (al2.tup hq)]; exact hq)
/-- for k, v in d.items() -/
theorem gs_forItems {ζ : Type} {gg : TG} {body : List Stmt} {apos cpos : Pos} {elts : List Expr} {kk : Nat} {tpos : Pos} (g : Sg S Bs Γ M σ H) (hp : PassesOwn (model X.prog X.w) X.A X.env X.xe) (hc : X.calm = true) (me : MonoE en) (hM : M[j]? = some (l, dicC en m))
    (he : ∀ M' H', Sg S Bs Γ M' σ H' → PE X e (tR S σ H' (isR l))) (hg : PG X (.Tuple elts kk tpos) gg)
    (Γi : List (List Int × β) → ζ → Ga) (Mi : CR → List (List Int × β) → ζ → Ce) (J : List (List Int × β) → ζ → Prop) (hMi : ∀ C pre z, (Mi C pre z)[j]? = some (l, C)) (hMs : ∀ C C' pre z, (Mi C pre z).set j (l, C') = Mi C' pre z)
    (h0 : ∀ C H', Sg S Bs Γ (M.set j (l, C)) σ H' → ∃ z, J [] z ∧ Sg S Bs (Γi [] z) (Mi C [] z) σ H')
    (h : ∀ C B pre x post, m = pre ++ x :: post → ∀ z, J pre z → ∀ σ' H' v, Sg S (B :: Bs) (Γi pre z) (Mi C pre z) σ' H' → pairR (isD (vec x.1)) (en x.1 x.2) v (hid S H') →
        Stored gg v σ' H' fun σ2 => SW X { D with nx := fun σ3 H3 => ∃ z', J (pre ++ [x]) z' ∧ Sg S (B :: Bs) (Γi (pre ++ [x]) z') (Mi C (pre ++ [x]) z') σ3 H3, ct := fun σ3 H3 => ∃ z', J (pre ++ [x]) z' ∧ Sg S (B :: Bs) (Γi (pre ++ [x]) z') (Mi C (pre ++ [x]) z') σ3 H3, bk := fun _ _ => False, rt := fun _ _ => False } body σ2 H')
    (hd : ∀ z, J m z → ∀ σ' H', Sg S Bs (Γi m z) (Mi (dicC en m) m z) σ' H' → SW X D rest σ' H') (hbase : attributeBase e "items" X.env (eval e X.env) = eval e X.env := by rfl) (hline : (apos.endLine == cpos.line) = true := by rfl) (hs : ∀ x, foldedSetIterable (.Call (.Attribute e "items" apos) [] [] cpos) X.env x = pure x := by intro _; rfl) :
    SW X D (.For (.Tuple elts kk tpos) (.Call (.Attribute e "items" apos) [] [] cpos) body [] pos :: rest) σ H := by
  obtain ⟨kvs, h1, gl⟩ := g.locked me hM
  refine sw_cons (ps_lock (ps_for hp hc (pi_itemsT pe_SE hbase hline) hg pss_SW hs)) ⟨l, .dT kvs, h1, trivial, fun od => ?_⟩
  have hj := (List.getElem?_eq_some_iff.mp hM).1
  have g0 := gl od
  refine se_g g0 (he _ _ g0) fun x H1 g1 e1 r => ?_
  obtain rfl : x = .ref l := r
  obtain ⟨z0, j0, g2⟩ := h0 _ _ g1
  obtain ⟨hS, _, _, o, ho, rfl, dk⟩ := g1.ce (l, frzC en m od kvs) (List.mem_of_getElem? (by rw [List.getElem?_set_self hj]))
  have hlen : kvs.length = m.length := dk.length
  refine ⟨l, od, kvs, rfl, ho, fun i n σ' H' => n = m.length - i ∧ i ≤ m.length ∧ ∃ z, J (m.take i) z ∧ Sg S (hid S H1 :: Bs) (Γi (m.take i) z) (Mi (frzC en m od kvs) (m.take i) z) σ' H', ⟨m.length, by simp, Nat.zero_le _, z0, j0, g2.base⟩, ?_⟩
  rintro i n σ' H' ⟨rfl, hi, z, jz, gz⟩
  have frz : H' l = some (.frz od (.dT kvs)) := by
    obtain ⟨_, _, _, o, h, rfl, _⟩ := gz.ce (l, frzC en m od kvs) (List.mem_of_getElem? (hMi _ _ _))
    exact h
  by_cases hlt : i < m.length
  · refine .inr ⟨⟨frz, by omega⟩, fun σ3 H3 => i + 1 ≤ m.length ∧ ∃ z', J (m.take (i + 1)) z' ∧ Sg S (hid S H1 :: Bs) (Γi (m.take (i + 1)) z') (Mi (frzC en m od kvs) (m.take (i + 1)) z') σ3 H3, fun σ3 H3 ⟨a, b⟩ => ⟨m.length - (i + 1), by omega, rfl, a, b⟩, fun x H2 y => ?_⟩
    obtain ⟨T, k, v, q, hk, rfl, hT, hq, rfl⟩ := y
    have g3 := gz.next (Ex.new (o := .tup [.ref q, v]) hT)
    have hget : m[i]? = some m[i] := by simp [hlt]
    have dkz : DiA en (hid S H') kvs m := by
      obtain ⟨_, _, _, o, h, _, d⟩ := gz.ce (l, frzC en m od kvs) (List.mem_of_getElem? (hMi _ _ _))
      exact d
    obtain ⟨v2, h2, hv⟩ := dkz.get hget
    rw [h2] at hk
    cases hk
    rw [List.map_map] at hq
    have hsplit : m = m.take i ++ m[i] :: m.drop (i + 1) := by rw [← List.drop_eq_getElem_cons hlt, List.take_append_drop]
    have e4 := hid_ex (S := S) (Ex.new (o := HO.tup [.ref q, v]) hT)
    obtain ⟨σ2, gs, qq⟩ := (h (frzC en m od kvs) (hid S H1) (m.take i) m[i] (m.drop (i + 1)) hsplit z jz σ' _ (.ref T) g3 ⟨T, .ref q, v, rfl, hid_new gz.al hT, (Dt.vecO (by rw [hid_out (gz.al.tup hq)]; exact hq)).mono e4, me _ _ _ _ _ e4 hv⟩).ex
    refine gs _ (SW_mono qq (fun σ3 H3 ⟨z', j', g'⟩ => ?_) (fun _ _ z => z.elim) (fun _ _ z => z.elim) (fun σ3 H3 ⟨z', j', g'⟩ => ?_))
    · rw [List.take_append_getElem hlt] at j' g'
      exact ⟨hlt, z', j', g'⟩
    · rw [List.take_append_getElem hlt] at j' g'
      exact ⟨hlt, z', j', g'⟩
  · have ei : i = m.length := by omega
    subst ei
    rw [List.take_length] at jz gz
    refine .inl ⟨⟨frz, by omega⟩, frz, hd z jz _ _ ?_⟩
    have := (gz.unbase).put (hMi _ _ _) (dicC_mono me m) (o := .dT kvs) ⟨kvs, rfl, by
      obtain ⟨_, _, _, o, h, _, d⟩ := gz.ce (l, frzC en m od kvs) (List.mem_of_getElem? (hMi _ _ _))
      exact d⟩
    rw [hMs] at this
    exact this
end
end N34

set_option Elab.async false
set_option linter.all false
set_option maxRecDepth 100000
set_option maxHeartbeats 1000000
/-! != of instances whose class has an own == and no own != -/
namespace N34
open PySem PySem.Spec PyProof.Rows L2
section
variable {M : Model} {prog : Program} {w : World} {A : Around} {E : Value → Shared → Prop} {s : Shared} {K : PySem.W.Frag} {x y C f : Addr} {ox : Obj} {od : Option Obj}
theorem ifBound_ne {args : List Value} {Q : Option Value → Shared → Prop} (X : K.In s.heap) (I : PySem.W.InstAt s.heap x ox C od) (hs : PySem.W.findIn K (.ref C) "__ne__" = some (some (.builtin "object.__ne__")))
    (h : wpAny M A (call (.builtin "object.__ne__") (.ref x :: args)) (fun v => Q (some v)) E s) : wpAny M A (callSpecialIfBound? (.ref x) "__ne__" args) Q E s := by
  simp only [callSpecialIfBound?, bindSpecialIfBound?]
  refine wpAny_holding (wpAny_bind (wpAny_bind (wpAny_bind (I.type.here ((PySem.W.looks_findIn X hs).here ?_)))))
  refine wpAny_bind (wpAny_askSetting (wpAny_ite ?_))
  have fin : wpAny M A (call (.builtin "object.__ne__") ([.ref x] ++ args) >>= fun v => pure (some v)) Q E s := wpAny_bind (wpAny_mono h (fun v s' h' => wpAny_pure h') fun _ _ h' => h')
  split
  · exact wpAny_bind (wpAny_of_eq (F.cmp_object.ne.bind _) (wpAny_pure (by exact fin)))
  · exact wpAny_tryCatch (wpAny_bind (wpAny_of_eq (F.cmp_object.ne.bind _) (wpAny_pure (by exact fin))))
theorem entry_neOwn {Q : Fin → Shared → Prop} (hu : A.units < cLine) (X : K.In s.heap) (I : PySem.W.InstAt s.heap x ox C od) (hs : PySem.W.findIn K (.ref C) "__eq__" = some (some (.ref f))) (hf : PySem.W.isFn K (.ref f) = true)
    (h : wpAny (model prog w) A (call (.ref f) [.ref x, .ref y]) (fun v s' => ∃ b, v = .bool b ∧ Q (.done (.ret (.bool (!b)))) s') E s) : wpAny (model prog w) A (Builtin.«object.__ne__» ⟨[.ref x, .ref y], []⟩) Q E s := by
  unfold Builtin.«object.__ne__»
  repeat (first
    | with_reducible refine wpAny_cRoomFor hu ?_
    | (refine wpAny_bind (m := callSpecialIfBound? (.ref x) (Str.ofString "__eq__") [.ref y])
        (PySem.W.ifBound_K X I hs hf (wpAny_mono h (fun r s' hr => by
          obtain ⟨b, rfl, hq⟩ := hr
          repeat (first | exact hq | exact wpAny_pure hq | exact wpAny_truthy_bool hq | (refine wpAny_bind (m := truthy (.bool _)) (wpAny_truthy_bool ?_)) | wp_step)) fun _ _ e => e)))
    | wp_step)
theorem rc_neOwn {Q : Value → Shared → Prop} {oy : Obj} {ody : Option Obj} (hu : A.units + 1 < cLine) (X : K.In s.heap) (I : PySem.W.InstAt s.heap x ox C od) (J : PySem.W.InstAt s.heap y oy C ody) (hm : PySem.W.mroIn K C (.type "object") = some true) (hn : PySem.W.findIn K (.ref C) "__ne__" = some (some (.builtin "object.__ne__")))
    (hs : PySem.W.findIn K (.ref C) "__eq__" = some (some (.ref f))) (hf : PySem.W.isFn K (.ref f) = true)
    (h : wpAny (model prog w) A.in1 (call (.ref f) [.ref x, .ref y]) (fun v s' => ∃ b, v = .bool b ∧ Q (.bool (!b)) s') E s) : wpAny (model prog w) A (richCompare .NotEq (.ref x) (.ref y)) Q E s := by
  have one : wpAny (model prog w) A (tryCompare (.ref x) "__ne__" (.ref y)) (fun r s' => ∃ b, r = some (.bool b) ∧ Q (.bool b) s') E s := by
    unfold tryCompare
    refine wpAny_bind (ifBound_ne X I hn (wpAny_call (codeAny_call_builtin F.cmp_object.ne.plain F.cmpEntry_ne (PySem.W.check_slot F.cmpKind_ne F.cmpSplit_ne (I.type.andThen (PySem.W.looks_mroIn X hm)) (F.cmpArgs_ne _ _)
      (entry_neOwn (A := A.in1) hu X I hs hf (wpAny_mono h (fun v s' hv => ?_) fun _ _ e => e))))))
    obtain ⟨b, rfl, hq⟩ := hv
    exact ⟨b, rfl, wpAny_pure ⟨_, rfl, hq⟩⟩
  unfold richCompare
  simp only [oneThing_ref]
  refine wpAny_holding (wpAny_bind (wpAny_cRoomFor (Nat.lt_of_succ_lt hu) ?_))
  refine wpAny_bind (I.type.here (wpAny_bind (J.type.here ?_)))
  rw [show (Value.ref C != Value.ref C) = false from by simp]
  simp only [Bool.false_eq_true, if_false]
  refine wpAny_bind (wpAny_pure ?_)
  simp only [Bool.false_eq_true, if_false]
  refine wpAny_bind (wpAny_mono one (fun r s' z => ?_) fun _ _ e => e)
  obtain ⟨b, rfl, hq⟩ := z
  exact wpAny_pure hq
end
section
variable {X : Cx} {C f : Addr} {fd : FuncData} {ps : List Str} {k : Nat} {pre : List V → Hp → RV → Prop}
theorem op_neOwn (F : FnOk X.prog X.w X.K X.mg X.base CX0 k f fd ps (spF pre)) (hr : Room (k + 1) X.A) (hb : Binds X.K fd ps []) (hm : PySem.W.mroIn X.K C (.type "object") = some true) (hn : PySem.W.findIn X.K (.ref C) "__ne__" = some (some (.builtin "object.__ne__")))
    (hs : PySem.W.findIn X.K (.ref C) "__eq__" = some (some (.ref f))) (hf : PySem.W.isFn X.K (.ref f) = true) :
    OpR X (compareOp .NotEq) (fun x y H Q => ∃ a b dx dy fs gs, x = .ref a ∧ y = .ref b ∧ H a = some (.ins C dx fs) ∧ H b = some (.ins C dy gs) ∧ spF pre [.ref a, .ref b] H (fun v H' => ∃ k, v = .bl k ∧ Q (.bl (!k)) H') E0) := by
  intro pins s σ H x y v u Q I rx ry h
  obtain ⟨a, b, dx, dy, fs, gs, rfl, rfl, ha, hb', hsp⟩ := h
  cases rx
  cases ry
  obtain ⟨mA, J, _⟩ := ins_get I.hok ha
  obtain ⟨mB, J', _⟩ := ins_get I.hok hb'
  obtain ⟨od, J, _⟩ := J.look
  obtain ⟨od', J', _⟩ := J'.look
  show wpAny (model X.prog X.w) X.A (richCompare .NotEq (.ref a) (.ref b)) (EP X pins σ Q) X.xe s
  refine rc_neOwn (by have := hr.un; omega) I.kIn J J' hm hn hs hf ?_
  have e0 : Env0 X.prog X.w X.K X.mg X.base X.A.in1 X.stack s H := by
    have e := I.env0
    exact ⟨e.frames, e.mod, e.bs, e.bsz, e.funs, e.frf, e.hok, e.bare⟩
  have hl := F.len _ _ _ _ hsp
  have r2 : Vals [V.ref a, V.ref b] [Value.ref a, Value.ref b] := .cons rfl (.cons rfl .nil)
  refine wpAny_call (codeAny_mono (F.run X.A.in1 X.stack s H ⟨[.ref a, .ref b], []⟩ [.ref a, .ref b] [.ref a, .ref b] _ E0 hr.in1 e0 (by
    have := hb s [.ref a, .ref b] I.kIn (by simpa using hl)
    simpa using this) r2 hsp) fun r s' hq => ?_)
  cases r with
  | error e => exact pass0 pins σ H s e s' I hq
  | ok fl =>
    cases fl with
    | ret w =>
      obtain ⟨z, H', I', rz, k, ez, q⟩ := I.after hq
      subst ez
      cases rz
      exact ⟨k, rfl, .bl _, H', I', rfl, q⟩
    | next => exact False.elim hq
    | brk => exact False.elim hq
    | cont => exact False.elim hq
end
end N34

set_option Elab.async false
set_option linter.all false
set_option maxRecDepth 100000
set_option maxHeartbeats 1000000
/-! isinstance; books -/
namespace N34
open PySem PySem.Spec PyProof.Rows L2
section
variable {X : Cx} {S : List Addr} {σ0 : L2.St} {H0 : Hp} {R Ra Rb Rz : RV} {a b e : Expr} {es : List Expr} {pos : Pos} {d : PyData}
def tyn : PyData → String
  | .none => "NoneType"
  | .bool _ => "bool"
  | .int _ => "int"
  | .str _ => "str"
  | .list _ => "list"
  | .tuple _ => "tuple"
  | .dict _ => "dict"
theorem Dt.ty {K : PySem.W.Frag} {H : Hp} {v : V} (h : Dt H v d) : TyX K H v (.type (tyn d)) := by
  cases h with
  | non => exact .base .non
  | bl b => exact .base (.bl b)
  | int i => exact .base (.int i)
  | str x => exact .base (.str x)
  | lst h _ => exact .base (.lst h)
  | tup h _ => exact .base (.tup h)
abbrev isTy (T : String) : RV := fun v _ => v = .ty T
theorem isTy_mono (T : String) : Mono (isTy T) := fun _ _ _ _ h => h
theorem r_ty {x : Str} {T : String} (hm : X.mg x = none) (hv : bootBuiltins x = some (.type T)) (hg : Gl X x := by rfl) (hn : x ≠ "__name__" := by decide) (hd : (x == ("__debug__" : Str)) = false := by decide) : PE X (.Name x pos) (tR S σ0 H0 (isTy T)) :=
  PE_imp (pe_bltn hg hm hv (v := .ty T) rfl hn hd) fun σ H Q ⟨_, _, _, k⟩ => k _ H (Ex.refl _) rfl
theorem r_isi {T : String} {x : Str} {p p2 : Pos} {k : Bool} (hm : X.mg "isinstance" = none) (ha : PE X a (tR S σ0 H0 (isD d))) (hx : X.mg x = none) (hv : bootBuiltins x = some (.type T)) (hk : PySem.W.kitOne X.K (.type (tyn d)) (.type T) = some k)
    (hg : Gl X "isinstance" := by rfl) (hgx : Gl X x := by rfl) (hn : x ≠ "__name__" := by decide) (hd : (x == ("__debug__" : Str)) = false := by decide) (hs : starEach [a, .Name x p2] X.env = (false, eval a X.env) :: starEach [.Name x p2] X.env := by rfl) (hpl : (backTo pos (starEach [.Name x p2] X.env)).any (·.1) = false := by rfl) :
    PE X (.Call (.Name "isinstance" p) [a, .Name x p2] [] pos) (tR S σ0 H0 (isD (.bool k))) :=
  r_callB call_isi hm (by decide +kernel) (ra_D ha (ra_cons (isTy_mono T) (r_ty hx hv hgx hn hd) ra_nil) hs) (fun vs H _ _ h Q kk => by
    obtain ⟨v, ws, rfl, h1, u, us, rfl, h2, h3⟩ := h
    obtain rfl : u = .ty T := h2
    obtain rfl : us = [] := h3
    exact ⟨v, .ty T, _, _, k, rfl, .ty T, (h1.mono hid_le).ty, hk, kk _ H (Ex.refl _) (.bl _)⟩) hg (he := hs) (hpl := hpl)
theorem r_isi2 {T1 T2 : String} {x y : Str} {p p1 p2 p3 : Pos} {k : Bool} {kt : Nat} (hm : X.mg "isinstance" = none) (ha : PE X a (tR S σ0 H0 (isD d))) (hx : X.mg x = none) (hv : bootBuiltins x = some (.type T1)) (hy : X.mg y = none) (hw : bootBuiltins y = some (.type T2)) (hk : PySem.W.kitAny X.K (.type (tyn d)) [.type T1, .type T2] = some k)
    (hg : Gl X "isinstance" := by rfl) (hgx : Gl X x := by rfl) (hn : x ≠ "__name__" := by decide) (hd : (x == ("__debug__" : Str)) = false := by decide) (hgy : Gl X y := by rfl) (hny : y ≠ "__name__" := by decide) (hdy : (y == ("__debug__" : Str)) = false := by decide)
    (hs : starEach [a, .Tuple [.Name x p1, .Name y p2] kt p3] X.env = (false, eval a X.env) :: starEach [.Tuple [.Name x p1, .Name y p2] kt p3] X.env := by rfl) (hpl : (backTo pos (starEach [.Tuple [.Name x p1, .Name y p2] kt p3] X.env)).any (·.1) = false := by rfl) :
    PE X (.Call (.Name "isinstance" p) [a, .Tuple [.Name x p1, .Name y p2] kt p3] [] pos) (tR S σ0 H0 (isD (.bool k))) := by
  have ht : PE X (.Tuple [.Name x p1, .Name y p2] kt p3) (tR S σ0 H0 (fun v H => ∃ t, v = .ref t ∧ H t = some (.tup [.ty T1, .ty T2]))) :=
    PE_imp (pe_tup (ra_cons (isTy_mono T1) (r_ty hx hv hgx hn hd) (ra_cons (isTy_mono T2) (r_ty hy hw hgy hny hdy) ra_nil))) fun σ H Q ⟨q, ex, al, k⟩ => ⟨q, ex, al, fun vs H1 e1 h => by
      obtain ⟨v, ws, rfl, h1, u, us, rfl, h2, h3⟩ := h
      obtain rfl : v = .ty T1 := h1
      obtain rfl : u = .ty T2 := h2
      obtain rfl : us = [] := h3
      exact ⟨sz (by show 2 ≤ 100000; decide), fun p hp => k _ _ (e1.trans (Ex.new hp)) ⟨p, rfl, hid_new (al.ex e1) hp⟩⟩⟩
  exact r_callB call_isiT hm (by decide +kernel) (ra_D ha (ra_cons (fun _ _ _ e ⟨t, h1, h2⟩ => ⟨t, h1, e _ _ h2⟩) ht ra_nil) hs) (fun vs H _ _ h Q kk => by
    obtain ⟨v, ws, rfl, h1, u, us, rfl, ⟨t, rfl, h2⟩, h3⟩ := h
    obtain rfl : us = [] := h3
    exact ⟨v, t, _, _, _, k, rfl, hid_le _ _ h2, .cons (.ty T1) (.cons (.ty T2) .nil), (h1.mono hid_le).ty, hk, kk _ H (Ex.refl _) (.bl _)⟩) hg (he := hs) (hpl := hpl)
end

/-! ### books -/
/-- kinds, batches: as the laws draw them -/
structure VB (k : Nat) (B : List (List Int)) : Prop where
  pos : 0 < k
  le : k ≤ 100
  le2 : k ≤ 60
  len : ∀ b ∈ B, b.length = k
  nn : ∀ b ∈ B, ∀ x ∈ b, 0 ≤ x
  ps : ∀ b ∈ B, 0 < b.sum
  nd : B.Nodup
  few : B.length ≤ 8
  sm : ∀ b ∈ B, b.sum ≤ 4
  le4 : k ≤ 4
abbrev bfs (k : Nat) (t d : Addr) : List (Str × V) := [("kinds", .int k), ("batches", .ref t), ("_found", .ref d)]
def isB (C : Addr) (k : Nat) (B : List (List Int)) (d : Addr) : RV := fun v F => ∃ a dx t, v = .ref a ∧ F a = some (.ins C dx (bfs k t d)) ∧ Dt F (.ref t) (tvec B)
theorem isB_mono (C : Addr) (k : Nat) (B : List (List Int)) (d : Addr) : Mono (isB C k B d) := fun _ _ _ e ⟨a, dx, t, h1, h2, h3⟩ => ⟨a, dx, t, h1, e _ _ h2, h3.mono e⟩
/-- a book, whatever it has found -/
def isBk (C : Addr) (k : Nat) (B : List (List Int)) : RV := fun v F => ∃ d, isB C k B d v F
theorem isBk_mono (C : Addr) (k : Nat) (B : List (List Int)) : Mono (isBk C k B) := fun _ _ _ e ⟨d, h⟩ => ⟨d, isB_mono C k B d _ _ _ e h⟩
structure BkF (K : PySem.W.Frag) (C : Addr) : Prop where
  cls : Cls K C
  nk : NoAttr K C "kinds"
  nb : NoAttr K C "batches"
  nf : NoAttr K C "_found"
  mro : PySem.W.mroIn K C (.type "object") = some true
  ne : PySem.W.findIn K (.ref C) "__ne__" = some (some (.builtin "object.__ne__"))
  kpC : PySem.W.keepIn K (.ref C) = true
section
variable {X : Cx} {S : List Addr} {σ0 : L2.St} {H0 : Hp} {R Ra Rb Rz : RV} {a b e : Expr} {es : List Expr} {pos : Pos} {d : PyData} {C : Addr} {k : Nat} {B : List (List Int)}
theorem g_kinds (T : BkF X.K C) (ha : PE X e (tR S σ0 H0 (isBk C k B))) (hb : attributeBase e "kinds" X.env (eval e X.env) = eval e X.env := by rfl) : PE X (.Attribute e "kinds" pos) (tR S σ0 H0 (isD (.int k))) :=
  PE_imp (pe_fld ha hb) fun σ H Q ⟨q, ex, al, kk⟩ => ⟨q, ex, al, fun x H1 e1 ⟨d, a, dx, t, ea, h1, h2⟩ => ⟨a, C, dx, _, .int k, ea, hid_le _ _ h1, T.cls, T.nk, rfl, kk _ _ e1 (.int _)⟩⟩
theorem g_batches (T : BkF X.K C) (ha : PE X e (tR S σ0 H0 (isBk C k B))) (hb : attributeBase e "batches" X.env (eval e X.env) = eval e X.env := by rfl) : PE X (.Attribute e "batches" pos) (tR S σ0 H0 (isD (tvec B))) :=
  PE_imp (pe_fld ha hb) fun σ H Q ⟨q, ex, al, kk⟩ => ⟨q, ex, al, fun x H1 e1 ⟨d, a, dx, t, ea, h1, h2⟩ => ⟨a, C, dx, _, .ref t, ea, hid_le _ _ h1, T.cls, T.nb, rfl, kk _ _ e1 h2⟩⟩
end
end N34
namespace N34
open PySem PySem.Spec PyProof.Rows L2
section
variable {K : PySem.W.Frag}
theorem k_int_int : PySem.W.kitOne K (.type "int") (.type "int") = some true := by kernel_rfl
theorem k_int_bool : PySem.W.kitOne K (.type "int") (.type "bool") = some false := by kernel_rfl
theorem k_tup_tup : PySem.W.kitOne K (.type "tuple") (.type "tuple") = some true := by kernel_rfl
theorem k_non_tup : PySem.W.kitOne K (.type "NoneType") (.type "tuple") = some false := by kernel_rfl
theorem k_lst_tup : PySem.W.kitOne K (.type "list") (.type "tuple") = some false := by kernel_rfl
theorem k_str_tup : PySem.W.kitOne K (.type "str") (.type "tuple") = some false := by kernel_rfl
theorem k_lst_2 : PySem.W.kitAny K (.type "list") [.type "list", .type "tuple"] = some true := by kernel_rfl
theorem k_tup_2 : PySem.W.kitAny K (.type "tuple") [.type "list", .type "tuple"] = some true := by kernel_rfl
end
end N34

set_option Elab.async false
set_option linter.all false
set_option maxRecDepth 100000
/-! what the defs compute, in plain Lean -/
namespace N34
open PySem
@[irreducible] def leB (a b : List Int) : Bool := ((a.zip b).map fun q => decide (q.1 ≤ q.2)).all id
@[irreducible] def subL (a b : List Int) : List Int := (a.zip b).map fun q => q.1 - q.2
@[irreducible] def addL (a b : List Int) : List Int := (a.zip b).map fun q => q.1 + q.2
@[irreducible] def zer (k : Nat) : List Int := List.replicate k 0
@[irreducible] def bAt (B : List (List Int)) (i : Int) : List Int := (B[i.toNat]?).getD []
@[irreducible] def vAt (x : List Int) (i : Int) : Int := (x[i.toNat]?).getD 0
@[irreducible] def nn (x : List Int) : Bool := x.all fun i => decide (0 ≤ i)
/-- sum_of, _law_sum -/
@[irreducible] def sumOf (k : Nat) (B : List (List Int)) (idx : List Int) : List Int := idx.foldl (fun acc i => addL acc (bAt B i)) (zer k)
@[irreducible] def needless (B : List (List Int)) (wanted cover whole : List Int) : Bool := (cover.map fun i => leB wanted (subL whole (bAt B i))).any id
/-! covers_of -/
@[irreducible] def short (k : Nat) (whole wanted : List Int) : List Int := ((List.range k).filter fun j => decide (vAt whole (j : Nat) < vAt wanted (j : Nat))).map fun j => ((j : Nat) : Int)
abbrev CvF := List (List Int × Unit)
abbrev CvL := List (List Int × List Int)
@[irreducible] def cvIn (cover whole : List Int) (f : Int) (later : CvL) (q : List Int × Nat) : CvL := if 0 < vAt q.1 f then pt later (isort (cover ++ [(q.2 : Int)])) (addL whole q.1) else later
@[irreducible] def cvStep (k : Nat) (B : List (List Int)) (wanted : List Int) (st : CvF × CvL) (p : List Int × List Int) : CvF × CvL :=
  if (short k p.2 wanted).length = 0 then (if needless B wanted p.1 p.2 then st.1 else pt st.1 p.1 (), st.2)
  else (st.1, B.zipIdx.foldl (cvIn p.1 p.2 (vAt (short k p.2 wanted) 0)) st.2)
def cvLoop (k : Nat) (B : List (List Int)) (wanted : List Int) : Nat → CvL → CvF → CvF
  | 0, _, found => found
  | n + 1, fresh, found => if fresh.length = 0 then found else
    let r := fresh.foldl (cvStep k B wanted) (found, [])
    cvLoop k B wanted n r.2 r.1
@[irreducible] def covers (k : Nat) (B : List (List Int)) (wanted : List Int) : List (List Int) := vsort ((cvLoop k B wanted (wanted.sum.toNat + 2) [([], zer k)] []).map (·.1))
/-! clearing -/
abbrev Kn := List (List Int × Option (List Int))
@[irreducible] def kinds1 (x : List Int) : List Int := ((x.zipIdx.filter fun q => decide (0 < q.1)).map fun q => ((q.2 : Nat) : Int))
@[irreducible] def bwf (B : List (List Int)) (x : List Int) : List Int :=
  if (kinds1 x).length = 0 then [] else ((B.zipIdx.filter fun q => decide (0 < vAt q.1 (vAt (kinds1 x) 0)) && leB q.1 x).map fun q => ((q.2 : Nat) : Int))
@[irreducible] def isNo : Option (Option (List Int)) → Bool
  | some none => true
  | _ => false
@[irreducible] def lkN (kn : Kn) (x : List Int) : Option (List Int) := (lk kn x).getD none
def clrM (B : List (List Int)) : Nat → List Int → Kn → Kn
  | 0, _, kn => kn
  | n + 1, x, kn => if (lk kn x).isSome then kn else
    (bwf B x).foldl (fun kn at_ => if (lkN kn x).isNone then
        let kn2 := clrM B n (subL x (bAt B at_)) kn
        pt kn2 x ((lkN kn2 (subL x (bAt B at_))).map fun r => at_ :: r)
      else kn) (pt kn x (if x.sum = 0 then some [] else none))
/-! leaves, is_safe -/
abbrev Lv := List (Int × List Int × Option (List Int))
@[irreducible] def lvIn (k : Nat) (B : List (List Int)) (q : List Int × Nat) (st : Lv × Kn) (c : List Int) : Lv × Kn :=
  let rest := subL (sumOf k B c) q.1
  let kn := clrM B 20 rest st.2
  (st.1 ++ [((q.2 : Int), c, lkN kn rest)], kn)
@[irreducible] def lvStep (k : Nat) (B : List (List Int)) (st : Lv × Kn) (q : List Int × Nat) : Lv × Kn := (covers k B q.1).foldl (lvIn k B q) st
@[irreducible] def leavesM (k : Nat) (B : List (List Int)) : Lv := (B.zipIdx.foldl (lvStep k B) ([], [])).1
@[irreducible] def safeM (k : Nat) (B : List (List Int)) : Bool := ((leavesM k B).map fun z => z.2.2.isSome).all id
/-! runs -/
@[irreducible] def stepsM (B : List (List Int)) (x : List Int) : List (Int × List Int) := (B.zipIdx.filter fun q => leB q.1 x).map fun q => ((q.2 : Int), subL x q.1)
abbrev Wy := List (List Int × List Int)
@[irreducible] def wyIn (w : List Int) (st : Wy × List (List Int)) (p : Int × List Int) : Wy × List (List Int) :=
  if (lk st.1 p.2).isSome then st else (pt st.1 p.2 (((lk st.1 w).getD []) ++ [p.1]), st.2 ++ [p.2])
@[irreducible] def wyStep (B : List (List Int)) (st : Wy × List (List Int)) (w : List Int) : Wy × List (List Int) := (stepsM B w).foldl (wyIn w) st
def wyLoop (B : List (List Int)) : Nat → List (List Int) → Wy → Wy
  | 0, _, found => found
  | n + 1, fresh, found => if fresh.length = 0 then found else
    let r := fresh.foldl (wyStep B) (found, [])
    wyLoop B n r.2 r.1
@[irreducible] def waysM (B : List (List Int)) (x : List Int) : Wy := wyLoop B (x.sum.toNat + 2) [x] [(x, [])]
@[irreducible] def endsM (B : List (List Int)) (x : List Int) : List (List Int) := vsort (((waysM B x).map (·.1)).filter fun r => decide ((stepsM B r).length = 0))
/-! parts -/
@[irreducible] def tiedM (b : List Int) (lots : List (List Int)) : List (List Int) := lots.filter fun lot => (lot.map fun j => decide (0 < vAt b j)).any id
@[irreducible] def partStep (lots : List (List Int)) (b : List Int) : List (List Int) := (lots.filter fun lot => !(tiedM b lots).contains lot) ++ [(tiedM b lots).flatten]
@[irreducible] def partsM (k : Nat) (B : List (List Int)) : List (List Int) := vsort ((B.foldl partStep ((List.range k).map fun j : Nat => [((j : Nat) : Int)])).map isort)
@[irreducible] def cut (lot b : List Int) : List Int := lot.map fun j => vAt b j
@[irreducible] def chosenM (B : List (List Int)) (lot : List Int) : List (List Int) := (B.filter fun b => decide ((cut lot b).sum = b.sum)).map (cut lot)
/-! the law's own -/
def crowdsM : Nat → Int → List (List Int)
  | 0, _ => []
  | 1, n => [[n]]
  | k + 2, n => (List.range (n + 1).toNat).foldl (fun acc x => acc ++ (crowdsM (k + 1) (n - (x : Nat))).map fun r => ((x : Nat) : Int) :: r) []
@[irreducible] def lendIn (st : CvF × List (List Int)) (r : List Int) : CvF × List (List Int) := if (lk st.1 r).isSome then st else (pt st.1 r (), st.2 ++ [r])
@[irreducible] def lrests (B : List (List Int)) (w : List Int) : List (List Int) := (B.filter fun b => leB b w).map fun b => subL w b
structure LE where
  seen : CvF
  found : List (List Int)
  later : List (List Int)
@[irreducible] def lendStep (B : List (List Int)) (st : LE) (w : List Int) : LE :=
  let r := (lrests B w).foldl lendIn (st.seen, st.later)
  ⟨r.1, if (lrests B w).length = 0 then st.found ++ [w] else st.found, r.2⟩
def lendLoop (B : List (List Int)) : Nat → List (List Int) → CvF → List (List Int) → List (List Int)
  | 0, _, _, found => found
  | n + 1, fresh, seen, found => if fresh.length = 0 then found else
    let r := fresh.foldl (lendStep B) ⟨seen, found, []⟩
    lendLoop B n r.later r.seen r.found
@[irreducible] def lendsM (B : List (List Int)) (x : List Int) : List (List Int) := vsort (lendLoop B (x.sum.toNat + 2) [x] [(x, ())] [])
/-- labels -/
@[irreducible] def lowM (least : List Int) (k : Nat) (b : List Int) : Int := minI (((List.range k).filter fun j => decide (0 < vAt b (j : Nat))).map fun j => vAt least (j : Nat))
@[irreducible] def lowSet (low : Int) (b : List Int) (least : List Int) (j : Nat) : List Int := least.set j (if 0 < vAt b (j : Nat) then low else vAt least (j : Nat))
@[irreducible] def lotB (k : Nat) (least : List Int) (b : List Int) : List Int := (List.range k).foldl (lowSet (lowM least k b) b) least
@[irreducible] def lotTurn (k : Nat) (B : List (List Int)) (least : List Int) (_ : Nat) : List Int := let l := B.foldl (lotB k) least; l.map fun j => vAt l j
@[irreducible] def labels (k : Nat) (B : List (List Int)) : List Int := (List.range k).foldl (lotTurn k B) ((List.range k).map fun j : Nat => ((j : Nat) : Int))
@[irreducible] def lotsM (k : Nat) (B : List (List Int)) : List (List Int) :=
  (isort (((labels k B).zipIdx.filter fun q => decide (q.1 = (q.2 : Int))).map fun q => q.1)).map fun low => ((List.range k).filter fun j => decide (vAt (labels k B) (j : Nat) = low)).map fun j => ((j : Nat) : Int)
/-- least covers by rows -/
@[irreducible] def lsome (B : List (List Int)) (wanted : List Int) : List Int := ((B.zipIdx.filter fun q => !decide (((q.1.zipIdx.filter fun z => decide (0 < z.1) && decide (0 < vAt wanted (z.2 : Nat))).map fun z => ((z.2 : Nat) : Int)) = [])).map fun q => ((q.2 : Nat) : Int))
@[irreducible] def lastI (r : List Int) : Int := r.getLast?.getD 0
abbrev LC := List (List Int × List Int) × List (List Int)
@[irreducible] def lcvIn (B : List (List Int)) (wanted row whole : List Int) (st : LC) (at_ : Int) : LC :=
  let mo := addL whole (bAt B at_)
  if leB wanted mo then
    (if (row.filter fun one => leB wanted (subL mo (bAt B one))) = [] then (st.1, st.2 ++ [row ++ [at_]]) else st)
  else (st.1 ++ (if (row.length : Int) + 1 < wanted.sum then [(row ++ [at_], mo)] else []), st.2)
@[irreducible] def lcvStep (B : List (List Int)) (wanted : List Int) (st : LC) (p : List Int × List Int) : LC :=
  ((lsome B wanted).filter fun at_ => decide (p.1 = []) || decide (lastI p.1 ≤ at_)).foldl (lcvIn B wanted p.1 p.2) st
def lcvLoop (B : List (List Int)) (wanted : List Int) : Nat → List (List Int × List Int) → List (List Int) → List (List Int)
  | 0, _, found => found
  | n + 1, last, found => if last.length = 0 then found else
    let r := last.foldl (lcvStep B wanted) ([], found)
    lcvLoop B wanted n r.1 r.2
@[irreducible] def lcovers (k : Nat) (B : List (List Int)) (wanted : List Int) : List (List Int) := vsort (lcvLoop B wanted (wanted.sum.toNat + 2) [([], zer k)] [])
/-- clears -/
abbrev Kb := List (List Int × Bool)
def lclGo (f : List Int → Kb → Bool × Kb) (x : List Int) (fst : Int) : List (List Int) → Kb → Kb
  | [], kn => kn
  | b :: bs, kn => if 0 < vAt b fst && leB b x then
      (let r := f (subL x b) kn
       if r.1 then pt r.2 x true else lclGo f x fst bs r.2)
    else lclGo f x fst bs kn
def lclM (B : List (List Int)) : Nat → List Int → Kb → Bool × Kb
  | 0, _, kn => (false, kn)
  | n + 1, x, kn => if x.sum = 0 then (true, kn) else
    let kn' := if (lk kn x).isSome then kn else lclGo (lclM B n) x (vAt (kinds1 x) 0) B (pt kn x false)
    ((lk kn' x).getD false, kn')
@[irreducible] def lwsIn (k : Nat) (B : List (List Int)) (b : List Int) (st : List (List Int) × Kb) (row : List Int) : List (List Int) × Kb :=
  let whole := sumOf k B row
  let r := lclM B 20 (subL whole b) st.2
  (if r.1 then st.1 else st.1 ++ [whole], r.2)
@[irreducible] def lwsStep (k : Nat) (B : List (List Int)) (st : List (List Int) × Kb) (b : List Int) : List (List Int) × Kb := (lcovers k B b).foldl (lwsIn k B b) st
@[irreducible] def wrongM (k : Nat) (B : List (List Int)) : List (List Int) := (B.foldl (lwsStep k B) ([], [])).1
/-- ends put together -/
@[irreducible] def setAll (row lot e : List Int) : List Int := lot.zipIdx.foldl (fun r q => r.set q.1.toNat (vAt e (q.2 : Nat))) row
@[irreducible] def erLot (B : List (List Int)) (x : List Int) (found : List (List Int)) (lot : List Int) : List (List Int) :=
  found.foldl (fun acc row => acc ++ (lendsM (chosenM B lot) (cut lot x)).map (setAll row lot)) []
@[irreducible] def erM (k : Nat) (B : List (List Int)) (lots : List (List Int)) (x : List Int) : List (List Int) := vsort (lots.foldl (erLot B x) [zer k])
end N34

set_option Elab.async false
set_option linter.all false
set_option maxRecDepth 100000
set_option maxHeartbeats 1000000
/-! == of data whose form is known; fields -/
namespace N34
open PySem PySem.Spec PyProof.Rows L2
theorem lay_ints : ∀ a : List Int, PyData.canLayAll0 (a.map PyData.int) = true
  | [] => rfl
  | _ :: a => by rw [List.map_cons, PyData.canLayAll0, PyData.canLay0, lay_ints a]; rfl
theorem dep_ints : ∀ a : List Int, PyData.depthAll (a.map PyData.int) = 0
  | [] => rfl
  | _ :: a => by rw [List.map_cons, PyData.depthAll, PyData.depth, dep_ints a]; rfl
theorem lay_all {α : Type} {en : α → PyData} (h : ∀ a, PyData.canLay0 (en a) = true) : ∀ l : List α, PyData.canLayAll0 (l.map en) = true
  | [] => rfl
  | a :: l => by rw [List.map_cons, PyData.canLayAll0, h a, lay_all h l]; rfl
theorem dep_all {α : Type} {en : α → PyData} {n : Nat} (h : ∀ a, PyData.depth (en a) ≤ n) : ∀ l : List α, PyData.depthAll (l.map en) ≤ n
  | [] => Nat.zero_le _
  | a :: l => by rw [List.map_cons, PyData.depthAll]; exact Nat.max_le.mpr ⟨h a, dep_all h l⟩
theorem lay_vec (a : List Int) : PyData.canLay0 (vec a) = true := by show PyData.canLay0 (.tuple _) = true; rw [PyData.canLay0, lay_ints]
theorem lay_lint (a : List Int) : PyData.canLay0 (lint a) = true := by show PyData.canLay0 (.list _) = true; rw [PyData.canLay0, lay_ints]
theorem dep_vec (a : List Int) : PyData.depth (vec a) ≤ 1 := by show PyData.depth (.tuple _) ≤ 1; rw [PyData.depth, dep_ints]; exact Nat.le_refl 1
theorem dep_lint (a : List Int) : PyData.depth (lint a) ≤ 1 := by show PyData.depth (.list _) ≤ 1; rw [PyData.depth, dep_ints]; exact Nat.le_refl 1
theorem shp {d : PyData} {n : Nat} (h1 : PyData.canLay0 d = true) (h2 : PyData.depth d ≤ n) (h3 : n ≤ 64) : SeqAt.shaped d = true := by
  unfold SeqAt.shaped; rw [h1, decide_eq_true (Nat.le_trans h2 h3)]; rfl
theorem shp_vec (a : List Int) : SeqAt.shaped (vec a) = true := shp (lay_vec a) (dep_vec a) (by decide)
theorem shp_lint (a : List Int) : SeqAt.shaped (lint a) = true := shp (lay_lint a) (dep_lint a) (by decide)
theorem lay_lst {α : Type} {en : α → PyData} (h : ∀ a, PyData.canLay0 (en a) = true) (l : List α) : PyData.canLay0 (.list (l.map en)) = true := by rw [PyData.canLay0, lay_all h]
theorem lay_tup {α : Type} {en : α → PyData} (h : ∀ a, PyData.canLay0 (en a) = true) (l : List α) : PyData.canLay0 (.tuple (l.map en)) = true := by rw [PyData.canLay0, lay_all h]
theorem dep_lst {α : Type} {en : α → PyData} {n : Nat} (h : ∀ a, PyData.depth (en a) ≤ n) (l : List α) : PyData.depth (.list (l.map en)) ≤ n + 1 := by rw [PyData.depth]; exact Nat.succ_le_succ (dep_all h l)
theorem dep_tup {α : Type} {en : α → PyData} {n : Nat} (h : ∀ a, PyData.depth (en a) ≤ n) (l : List α) : PyData.depth (.tuple (l.map en)) ≤ n + 1 := by rw [PyData.depth]; exact Nat.succ_le_succ (dep_all h l)
theorem shp_lvec (l : List (List Int)) : SeqAt.shaped (lvec l) = true := shp (lay_lst lay_vec l) (dep_lst dep_vec l) (by decide)
theorem shp_tvec (l : List (List Int)) : SeqAt.shaped (tvec l) = true := shp (lay_tup lay_vec l) (dep_tup dep_vec l) (by decide)
theorem shp_llint (l : List (List Int)) : SeqAt.shaped (.list (l.map lint)) = true := shp (lay_lst lay_lint l) (dep_lst dep_lint l) (by decide)
theorem eqv_all {α : Type} [DecidableEq α] {en : α → PyData} (h : ∀ a b, PyData.eqv (en a) (en b) = decide (a = b)) : ∀ l m : List α, PyData.eqvAll (l.map en) (m.map en) = decide (l = m)
  | [], [] => by simp [PyData.eqvAll]
  | [], _ :: _ => by simp [PyData.eqvAll]
  | _ :: _, [] => by simp [PyData.eqvAll]
  | a :: l, b :: m => by
    rw [List.map_cons, List.map_cons, PyData.eqvAll, h, eqv_all h l m]
    by_cases e : a = b <;> by_cases e2 : l = m <;> simp [e, e2]
theorem eqv_int (a b : Int) : PyData.eqv (.int a) (.int b) = decide (a = b) := by rw [PyData.eqv]; exact Bool.beq_eq_decide_eq a b
theorem eqv_vec (a b : List Int) : PyData.eqv (vec a) (vec b) = decide (a = b) := by show PyData.eqv (.tuple _) (.tuple _) = _; rw [PyData.eqv, eqv_all eqv_int]
theorem eqv_lint (a b : List Int) : PyData.eqv (lint a) (lint b) = decide (a = b) := by show PyData.eqv (.list _) (.list _) = _; rw [PyData.eqv, eqv_all eqv_int]
theorem eqv_lvec (a b : List (List Int)) : PyData.eqv (lvec a) (lvec b) = decide (a = b) := by show PyData.eqv (.list _) (.list _) = _; rw [PyData.eqv, eqv_all eqv_vec]
theorem eqv_tvec (a b : List (List Int)) : PyData.eqv (tvec a) (tvec b) = decide (a = b) := by show PyData.eqv (.tuple _) (.tuple _) = _; rw [PyData.eqv, eqv_all eqv_vec]
theorem any_vec (B : List (List Int)) (c : List Int) : ((B.map vec).any fun z => PyData.eqv z (vec c)) = decide (c ∈ B) := by
  rw [List.any_map]
  have : ((fun z => PyData.eqv z (vec c)) ∘ vec) = fun b => decide (b = c) := funext fun b => eqv_vec b c
  rw [this, Bool.eq_iff_iff]
  simp only [List.any_eq_true, decide_eq_true_eq]
  exact ⟨fun ⟨x, h, e⟩ => e ▸ h, fun h => ⟨c, h, rfl⟩⟩
theorem any_lint (B : List (List Int)) (c : List Int) : ((B.map lint).any fun z => PyData.eqv z (lint c)) = decide (c ∈ B) := by
  rw [List.any_map]
  have : ((fun z => PyData.eqv z (lint c)) ∘ lint) = fun b => decide (b = c) := funext fun b => eqv_lint b c
  rw [this, Bool.eq_iff_iff]
  simp only [List.any_eq_true, decide_eq_true_eq]
  exact ⟨fun ⟨x, h, e⟩ => e ▸ h, fun h => ⟨c, h, rfl⟩⟩
theorem eqv_nil (ds : List PyData) : PyData.eqv (.list ds) (.list []) = decide (ds.length = 0) := by
  cases ds <;> simp [PyData.eqv, PyData.eqvAll]
section
variable {X : Cx} {S : List Addr} {σ0 : L2.St} {H0 : Hp} {R Ra Rb Rz : RV} {a b e : Expr} {es : List Expr} {pos : Pos} {d : PyData} {σ : L2.St} {H : Hp} {D : Ends} {rest : List Stmt}
theorem r_inV {B : List (List Int)} {c : List Int} (hu : X.A.units + 65 < cLine) (ha : PE X a (tR S σ0 H0 (isD (vec c)))) (hb : PE X b (tR S σ0 H0 (isD (lvec B)))) (hk : behindInMarks .In b = false := by rfl) : PE X (.Compare a [.In] [b] pos) (tR S σ0 H0 (isD (.bool (decide (c ∈ B))))) :=
  r_eq (r_inL hu ha hb (shp_vec c) (shp_lvec B) hk) (by rw [any_vec])
theorem t_inV {B : List (List Int)} {c : List Int} (hu : X.A.units + 65 < cLine) (ha : PE X a (tR S σ0 H0 (isD (vec c)))) (hb : PE X b (tR S σ0 H0 (isD (lvec B)))) (hk : behindInMarks .In b = false := by rfl) : PT X (.Compare a [.In] [b] pos) (tRT S σ0 H0 (decide (c ∈ B))) :=
  t_eq (t_inL hu ha hb (shp_vec c) (shp_lvec B) hk) (by rw [any_vec])
theorem r_ninV {B : List (List Int)} {c : List Int} (hu : X.A.units + 65 < cLine) (ha : PE X a (tR S σ0 H0 (isD (vec c)))) (hb : PE X b (tR S σ0 H0 (isD (lvec B)))) (hk : behindInMarks .NotIn b = false := by rfl) : PE X (.Compare a [.NotIn] [b] pos) (tR S σ0 H0 (isD (.bool (!decide (c ∈ B))))) :=
  r_eq (r_notInL hu ha hb (shp_vec c) (shp_lvec B) hk) (by rw [any_vec])
theorem t_ninV {B : List (List Int)} {c : List Int} (hu : X.A.units + 65 < cLine) (ha : PE X a (tR S σ0 H0 (isD (vec c)))) (hb : PE X b (tR S σ0 H0 (isD (lvec B)))) (hk : behindInMarks .NotIn b = false := by rfl) : PT X (.Compare a [.NotIn] [b] pos) (tRT S σ0 H0 (!decide (c ∈ B))) :=
  t_eq (t_notInL hu ha hb (shp_vec c) (shp_lvec B) hk) (by rw [any_vec])
theorem t_ninI {B : List (List Int)} {c : List Int} (hu : X.A.units + 65 < cLine) (ha : PE X a (tR S σ0 H0 (isD (lint c)))) (hb : PE X b (tR S σ0 H0 (isD (.list (B.map lint))))) (hk : behindInMarks .NotIn b = false := by rfl) : PT X (.Compare a [.NotIn] [b] pos) (tRT S σ0 H0 (!decide (c ∈ B))) :=
  t_eq (t_notInL hu ha hb (shp_lint c) (shp_llint B) hk) (by rw [any_lint])
theorem r_eqNil {ds : List PyData} {p : Pos} (hu : X.A.units + 64 < cLine) (ha : PE X a (tR S σ0 H0 (isD (.list ds)))) (hs : SeqAt.shaped (.list ds) = true) : PE X (.Compare a [.Eq] [.List [] p] pos) (tR S σ0 H0 (isD (.bool (decide (ds.length = 0))))) :=
  r_eq (r_eqD hu ha (r_lst (ds := []) ra_nil) hs rfl) (by rw [eqv_nil])
theorem t_eqNil {ds : List PyData} {p : Pos} (hu : X.A.units + 64 < cLine) (ha : PE X a (tR S σ0 H0 (isD (.list ds)))) (hs : SeqAt.shaped (.list ds) = true) : PT X (.Compare a [.Eq] [.List [] p] pos) (tRT S σ0 H0 (decide (ds.length = 0))) :=
  t_eq (t_eqD hu ha (r_lst (ds := []) ra_nil) hs rfl) (by rw [eqv_nil])
theorem r_neNil {ds : List PyData} {p : Pos} (hu : X.A.units + 64 < cLine) (ha : PE X a (tR S σ0 H0 (isD (.list ds)))) (hs : SeqAt.shaped (.list ds) = true) : PE X (.Compare a [.NotEq] [.List [] p] pos) (tR S σ0 H0 (isD (.bool (!decide (ds.length = 0))))) :=
  r_eq (r_neD hu ha (r_lst (ds := []) ra_nil) hs rfl) (by rw [eqv_nil])
theorem t_neNil {ds : List PyData} {p : Pos} (hu : X.A.units + 64 < cLine) (ha : PE X a (tR S σ0 H0 (isD (.list ds)))) (hs : SeqAt.shaped (.list ds) = true) : PT X (.Compare a [.NotEq] [.List [] p] pos) (tRT S σ0 H0 (!decide (ds.length = 0))) :=
  t_eq (t_neD hu ha (r_lst (ds := []) ra_nil) hs rfl) (by rw [eqv_nil])
theorem r_slE {α : Type} {x : List α} {i : Int} {n : Nat} {hi : Expr} {p2 : Pos} (en : α → PyData) (ha : PE X e (tR S σ0 H0 (isD (.list (x.map en))))) (hb : PE X hi (tR S σ0 H0 (isD (.int i)))) (hn : i = n) : PE X (.Subscript e (.Slice none (some hi) none p2) pos) (tR S σ0 H0 (isD (.list ((x.take n).map en)))) := by
  subst hn
  exact r_eq (r_slTo ha hb) (by rw [List.map_take])
theorem r_revE {α : Type} {x : List α} {k : Nat} {p1 p2 p3 : Pos} (en : α → PyData) (ha : PE X e (tR S σ0 H0 (isD (.list (x.map en))))) : PE X (.Subscript e (.Slice none none (some (.UnaryOp .USub (.Constant (.int 1) k p1) p2)) p3) pos) (tR S σ0 H0 (isD (.list (x.reverse.map en)))) :=
  r_eq (r_rev ha) (by rw [List.map_reverse])
/-! ### fields -/
theorem sx_fld {o value : Expr} {f : Str} {pos' : Pos} (h : SE X value σ H fun y H1 => SE X o σ H1 fun x H2 => ∃ a C dx fs, x = .ref a ∧ H2 a = some (.ins C dx fs) ∧ Cls X.K C ∧ NoAttr X.K C f ∧ fs.length < 1000 ∧ SW X D rest σ (upd H2 a (.ins C dx (putF f y fs))))
    (hs : swapsWith value (some (.Attribute o f pos')) pos.line X.env = pure false := by rfl) : SW X D (.Assign [.Attribute o f pos'] value pos :: rest) σ H := sw_cons (ps_fld pe_SE pe_SE hs) h
end
/-- a cell that holds just this -/
def eqC (o0 : HO) : CR := fun o _ => o = o0
theorem eqC_mono {o0 : HO} (n : NT o0) : MonoC (eqC o0) := ⟨fun _ _ _ _ h => h, fun o _ h => by rw [show o = o0 from h]; exact n⟩
/-- at the entry of a def with effects on the cells M -/
theorem Sg.startC {S : List Addr} {M : Ce} {H : Hp} {Rs : List RV} {vs : List V} {N : List Str} (al : Al S H) (m : MonoA Rs) (h : AllR Rs vs (hid S H)) (hn : vs.length ≤ N.length) (c : CeOk S M H) :
    Sg S [hid (M.map (·.1)) H] (Rs.map some ++ List.replicate (N.length - Rs.length) none) M (L2.start N vs) H :=
  Sg.startE al m h hn (fun b hb => by rw [List.mem_singleton.mp hb]; exact hid_le) (fun p hp => by
    obtain ⟨h1, h2, h3⟩ := c.ce p hp
    exact ⟨h1, fun b hb => by rw [List.mem_singleton.mp hb]; exact hid_in (List.mem_map_of_mem hp), h2, h3⟩) c.nd
theorem CeOk.one {S : List Addr} {H : Hp} {l : Addr} {C : CR} {o : HO} (h1 : l ∈ S) (m : MonoC C) (h2 : H l = some o) (h3 : C o (hid S H)) : CeOk S [(l, C)] H :=
  ⟨fun p hp => by rw [List.mem_singleton.mp hp]; exact ⟨h1, m, o, h2, h3⟩, by simp⟩
section
variable {X : Cx} {S : List Addr} {Bs : List Hp} {Γ : Ga} {M M' M1 : Ce} {R : RV} {a b e : Expr} {es : List Expr} {pos : Pos} {d : PyData} {σ : L2.St} {H : Hp} {D : Ends} {rest : List Stmt}
theorem gs_newL {i : Nat} {x : Str} {p' lp : Pos} {ds : List PyData} (g : Sg S Bs Γ M σ H) (hN : X.N.Nodup) (h : PA X es (tRA S σ H (ds.map isD))) (k : ∀ l σ' H', l ∉ S → Sg (l :: S) Bs (Γ.set i (some (isR l))) ((l, lisC ds) :: M) σ' H' → SW X D rest σ' H')
    (hi : X.N[i]? = some x := by rfl) (hl : Nat.blt i Γ.length = true := by rfl) (hd : ds.length ≤ 100000 := by exact Nat.le_of_ble_eq_true rfl) (hx : Loc X.env.scope x := by first | exact Or.inl rfl | exact Or.inr rfl) (hs : swapsWith (.List es lp) (some (.Name x p')) pos.line X.env = pure false := by rfl)
    (hf : X.fn x = true ∨ X.env.scope.names.lookup x = some .local := by first | exact .inl rfl | exact .inr rfl | assumption) : SW X D (.Assign [.Name x p'] (.List es lp) pos :: rest) σ H :=
  sx_set hN (se_newL g h (fun l H1 n g1 => k l _ _ n (g1.set (blt hl) (isR_mono l) rfl)) hd) hi hx hs hf
theorem gs_newD {β : Type} {en : List Int → β → RV} {i : Nat} {x : Str} {p' lp : Pos} (g : Sg S Bs Γ M σ H) (hN : X.N.Nodup) (me : MonoE en) (k : ∀ l σ' H', l ∉ S → Sg (l :: S) Bs (Γ.set i (some (isR l))) ((l, dicC en []) :: M) σ' H' → SW X D rest σ' H')
    (hi : X.N[i]? = some x := by rfl) (hl : Nat.blt i Γ.length = true := by rfl) (hx : Loc X.env.scope x := by first | exact Or.inl rfl | exact Or.inr rfl) (hs : swapsWith (.Dict [] [] lp) (some (.Name x p')) pos.line X.env = pure false := by rfl)
    (hf : X.fn x = true ∨ X.env.scope.names.lookup x = some .local := by first | exact .inl rfl | exact .inr rfl | assumption) : SW X D (.Assign [.Name x p'] (.Dict [] [] lp) pos :: rest) σ H :=
  sx_set hN (se_newD g me (fun l H1 n g1 => k l _ _ n (g1.set (blt hl) (isR_mono l) rfl))) hi hx hs hf
end
end N34

set_option Elab.async false
set_option linter.all false
set_option maxRecDepth 100000
set_option maxHeartbeats 1000000
/-! comprehensions of two parts -/
namespace N34
open PySem PySem.Spec PyProof.Rows L2
section
variable {X : Cx} {S : List Addr} {σ0 : L2.St} {H0 : Hp} {R Ra Rb Rz : RV} {elt tg iter tg1 iter1 e : Expr} {ifs : List Expr} {pos : Pos} {d : PyData} {α β γ : Type} {scope : Scope}
def iB (X : Cx) (scope : Scope) (tg iter : Expr) : TI := fun σ H R => Blk X scope fun Y => ∀ pins s, Inv Y pins σ H s →
  wpAny (model Y.prog Y.w) Y.A (eval iter Y.env) (fun v s1 => wpAny (model Y.prog Y.w) Y.A (pyIter v) (PIE Y pins σ tg R) Y.xe s1) Y.xe s
theorem pi_iB : ∀ (s : Shared) (H : Hp) (C : Addr) (cl : List (Str × Addr)) (fp : List Addr), PI (X.blk s H scope (compEnvC scope cl C X.env) fp) tg1 iter1 (iB X scope tg1 iter1) := fun s H C cl fp => ⟨fun pins s' σ H' R I h => h s H C cl fp pins s' I⟩
theorem iB_of {t : TI} {σ' : L2.St} {H : Hp} {R : It → Hp → Prop} (h : Blk X scope fun Y => PI Y tg1 iter1 t) (q : t σ' H R) : iB X scope tg1 iter1 σ' H R := fun s H1 C cl fp pins s' I => (h s H1 C cl fp).run pins s' σ' H R I q
structure Item2 (X : Cx) (scope : Scope) (elt : Expr) (g : TG) (vs : List Nat) (σw : L2.St) (S' : List Addr) (H : Hp) (v : V) (d : PyData) : Prop where
  ex : ∃ σ', L2.wipe σ' vs = σw ∧ (∀ Q : L2.St → Hp → Prop, Q σ' H → g v σw H Q) ∧ Blk X scope fun Y => PE Y elt (tR S' σ' H (isD d))
theorem r_lc2 {xs : List α} {ys : α → List β} {enc : α → RV} {enc2 : β → RV} {g g1 : TG} {own : List (Str × Nat)} {vs1 : List Nat} {f : α → β → γ} (en : γ → PyData) (hc : X.calm = true) (hN : X.N.Nodup) (hi : PI X tg iter (tW S σ0 H0 xs enc)) (ok : BlkOk X.N X.env.scope scope own) (hv : ∀ i ∈ vs1, i ∈ own.map (·.2))
    (hg : Blk X scope fun Y => PG Y tg g) (hg1 : Blk X scope fun Y => PG Y tg1 g1) (hl : (xs.flatMap fun a => (ys a).map (f a)).length ≤ 100000)
    (h : ∀ a ∈ xs, ∀ S' H v, Up S H0 S' H → enc a v (hid S' H) → ∃ σ2, L2.wipe σ2 (own.map (·.2)) = L2.wipe σ0 (own.map (·.2)) ∧ (∀ Q : L2.St → Hp → Prop, Q σ2 H → g v (L2.wipe σ0 (own.map (·.2))) H Q) ∧ (Blk X scope fun Y => PI Y tg1 iter1 (tW S' σ2 H (ys a) enc2)) ∧
      ∀ b ∈ ys a, ∀ H' v', Ex (hid S' H) (hid S' H') → Al S' H' → enc2 b v' (hid S' H') → Item2 X scope elt g1 vs1 (L2.wipe σ2 vs1) S' H' v' (en (f a b)))
    (hs : ∀ x, foldedSetIterable iter X.env x = pure x := by intro _; rfl) (hs1 : ∀ env x, foldedSetIterable iter1 env x = pure x := by intro _ _; rfl) :
    PE X (.ListComp elt [⟨tg, iter, [], 0⟩, ⟨tg1, iter1, [], 0⟩] scope pos) (tR S σ0 H0 (isD (.list ((xs.flatMap fun a => (ys a).map (f a)).map en)))) := by
  refine PE_imp (pe_lc2 hc hN hi ok hv hg pts_ttB pi_iB hg1 pts_ttB pe_teB hs hs1) fun σ H Q ⟨es, ex, al, k⟩ => ?_
  subst es
  have bound : ∀ n j a, xs[n]? = some a → (((xs.take n).flatMap fun a => (ys a).map (f a)) ++ ((ys a).take j).map (f a)).length ≤ 100000 := fun n j a ha => by
    refine Nat.le_trans ?_ hl
    obtain ⟨h1, h2⟩ := List.getElem?_eq_some_iff.mp ha
    have e : xs = xs.take n ++ a :: xs.drop (n + 1) := by rw [← h2, ← List.drop_eq_getElem_cons h1, List.take_append_drop]
    conv => rhs; rw [e]
    rw [List.flatMap_append, List.flatMap_cons, List.length_append, List.length_append, List.length_append, List.length_map, List.length_map, List.length_take]
    omega
  refine ⟨rfl, ex, al, fun J H1 e1 W D hD => ?_⟩
  have aD : D ∉ S := (al.ex e1).out hD
  refine ⟨fun m n Hm => n = xs.length - m ∧ m ≤ xs.length ∧ Ex H1 Hm ∧ Al S Hm ∧ ∃ acc, Hm D = some (.lst acc) ∧ DtA (hid (D :: S) Hm) acc (((xs.take m).flatMap fun a => (ys a).map (f a)).map en), ⟨xs.length, by simp, Nat.zero_le _, Ex.new hD, Al.upd (al.ex e1) .lst, [], upd_same, by simp; exact .nil⟩, ?_⟩
  rintro m n Hm ⟨rfl, hm, eH, alm, acc, hacc, dacc⟩
  have alD : Al (D :: S) Hm := alm.cons hacc .lst
  have eF : Ex (hid S H1) (hid (D :: S) Hm) := hid_cons eH hD
  by_cases hlt : m < xs.length
  · refine .inr ⟨W.goes m _ _ hlt eF alD, fun Hx => m + 1 ≤ xs.length ∧ Ex H1 Hx ∧ Al S Hx ∧ ∃ acc, Hx D = some (.lst acc) ∧ DtA (hid (D :: S) Hx) acc (((xs.take (m + 1)).flatMap fun a => (ys a).map (f a)).map en), fun H' ⟨a, b, c, dd⟩ => ⟨xs.length - (m + 1), by omega, rfl, a, b, c, dd⟩, fun x H' y => ?_⟩
    have hget : xs[m]? = some xs[m] := by simp [hlt]
    obtain ⟨e2, enx⟩ := W.yields m xs[m] (D :: S) Hm x H' hget eF alD y
    have u3 : Up S H (D :: S) H' := ⟨((e1).trans eH).trans e2, fun b hb => List.mem_cons_of_mem _ hb, fun b hb => (List.mem_cons.mp hb).elim (fun z => .inr (by rw [z]; exact e1.free hD)) .inl, alD.ex e2⟩
    have u3 : Up S H0 (D :: S) H' := ⟨ex.trans u3.ex, u3.sub, fun b hb => (u3.new b hb).elim .inl fun z => .inr (ex.free z), u3.al⟩
    obtain ⟨σ2, w1, gs, hpi, hin⟩ := h xs[m] (List.getElem_mem hlt) (D :: S) H' x u3 enx
    refine gs _ ⟨w1, ttB_of b_nil (alD.ex e2) fun H3 e4 => ?_⟩
    rw [if_pos rfl]
    refine iB_of hpi ⟨rfl, e4, (alD.ex e2).ex e4, fun J1 H4 e5 W1 => ?_⟩
    have e24 := e2.trans (e4.trans e5)
    refine ⟨fun j q Hj => q = (ys xs[m]).length - j ∧ j ≤ (ys xs[m]).length ∧ Ex H1 Hj ∧ Al S Hj ∧ Ex (hid (D :: S) H4) (hid (D :: S) Hj) ∧ ∃ acc, Hj D = some (.lst acc) ∧ DtA (hid (D :: S) Hj) acc ((((xs.take m).flatMap fun a => (ys a).map (f a)) ++ ((ys xs[m]).take j).map (f xs[m])).map en),
      ⟨(ys xs[m]).length, by simp, Nat.zero_le _, eH.trans e24, alm.ex e24, Ex.refl _, acc, e24 _ _ hacc, by simpa using dacc.mono (hid_ex e24)⟩, ?_⟩
    rintro j q Hj ⟨rfl, hj, eJ, alj, eJ4, acc2, hacc2, dacc2⟩
    have alDj : Al (D :: S) Hj := alj.cons hacc2 .lst
    by_cases hlt2 : j < (ys xs[m]).length
    · refine .inr ⟨W1.goes j _ _ hlt2 eJ4 alDj, fun Hx => j + 1 ≤ (ys xs[m]).length ∧ Ex H1 Hx ∧ Al S Hx ∧ Ex (hid (D :: S) H4) (hid (D :: S) Hx) ∧ ∃ acc, Hx D = some (.lst acc) ∧ DtA (hid (D :: S) Hx) acc ((((xs.take m).flatMap fun a => (ys a).map (f a)) ++ ((ys xs[m]).take (j + 1)).map (f xs[m])).map en),
        fun H' ⟨a, b, c, d', dd⟩ => ⟨(ys xs[m]).length - (j + 1), by omega, rfl, a, b, c, d', dd⟩, fun x2 H5 y2 => ?_⟩
      have hget2 : (ys xs[m])[j]? = some (ys xs[m])[j] := by simp [hlt2]
      obtain ⟨e6, enx2⟩ := W1.yields j _ (D :: S) Hj x2 H5 hget2 eJ4 alDj y2
      obtain ⟨σ3, w3, gs3, he⟩ := (hin _ (List.getElem_mem hlt2) H5 x2 ((hid_ex (e4.trans e5)).trans (eJ4.trans (hid_ex e6))) (alDj.ex e6) enx2).ex
      refine gs3 _ ⟨w3, ttB_of b_nil (alDj.ex e6) fun H6 e7 => ?_⟩
      rw [if_pos rfl]
      refine teB_of (fun s H C cl fp => PE_mono e7 (he s H C cl fp)) ((alDj.ex e6).ex e7) fun y H7 e8 dy => ?_
      have e68 := e6.trans (e7.trans e8)
      have tk := take_succ hget2
      refine ⟨acc2, e68 _ _ hacc2, szlt ?_, hlt2, (eJ.trans e68).mut hD, Al.upd (alj.ex e68) .lst, ?_, acc2 ++ [y], upd_same, ?_⟩
      · have z1 : acc2.length = _ := dacc2.length
        have z2 := bound m (j + 1) _ hget
        rw [List.length_map] at z1
        rw [tk, List.map_append, ← List.append_assoc, List.length_append] at z2
        simp at z1 z2 ⊢
        omega
      · rw [hid_upd List.mem_cons_self]; exact eJ4.trans (hid_ex e68)
      · rw [hid_upd List.mem_cons_self, tk]
        simp only [List.map_append, ← List.append_assoc] at dacc2 ⊢
        exact (dacc2.mono (hid_ex e68)).append (.cons dy .nil)
    · have ej : j = (ys xs[m]).length := by omega
      subst ej
      refine .inl ⟨W1.stops _ _ eJ4 alDj, hlt, eJ, alj, acc2, hacc2, ?_⟩
      rw [take_succ hget, List.flatMap_append, List.flatMap_singleton]
      rw [List.take_length] at dacc2
      exact dacc2
  · have em : m = xs.length := by omega
    subst em
    refine .inl ⟨W.stops _ _ eF alD, k _ _ (e1.trans eH) ?_⟩
    rw [List.take_length] at dacc
    exact .lst (by rw [hid_out aD]; exact hacc) (dacc.mono hid_tl)
theorem r_flat {Bs : List Hp} {Γ : Ga} {M : Ce} {σ : L2.St} {H : Hp} {L : List (List Int)} {i j : Nat} {own : List (Str × Nat)} (g : Sg S Bs Γ M σ H) (hc : X.calm = true) (hN : X.N.Nodup) (hi : PI X tg iter (tW S σ H L fun l => isD (lint l))) (ok : BlkOk X.N X.env.scope scope own)
    (iv : i ∈ own.map (·.2)) (jv : j ∈ own.map (·.2)) (li : Nat.blt i Γ.length = true) (lj : Nat.blt j Γ.length = true) (hg : Blk X scope fun Y => PG Y tg (gName i)) (hg1 : Blk X scope fun Y => PG Y tg1 (gName j)) (h1 : Blk X scope fun Y => PE Y iter1 (tVar i)) (h2 : Blk X scope fun Y => PE Y elt (tVar j))
    (hl : L.flatten.length ≤ 100000) (hs : ∀ x, foldedSetIterable iter X.env x = pure x := by intro _; rfl) (hs1 : ∀ env x, foldedSetIterable iter1 env x = pure x := by intro _ _; rfl) :
    PE X (.ListComp elt [⟨tg, iter, [], 0⟩, ⟨tg1, iter1, [], 0⟩] scope pos) (tR S σ H (isD (lint L.flatten))) := by
  have e : (L.flatMap fun a => (id a).map fun b : Int => b) = L.flatten := by simp [List.flatMap]
  have q := r_lc2 (elt := elt) (pos := pos) (xs := L) (ys := id) (f := fun _ b => b) (enc2 := fun b => isD (.int b)) PyData.int hc hN hi ok (vs1 := [j]) (fun x hx => by rw [List.mem_singleton.mp hx]; exact jv) hg hg1 (by rw [e]; exact hl) (fun a ha S' H' v u en => ?_) hs hs1
  · rw [e] at q; exact q
  · have g' := ((g.up u).wipe (own.map (·.2))).set (i := i) (by rw [wipeG_len]; exact blt li) (isD_mono (lint a)) en
    refine ⟨_, wipe_set iv, fun _ z => z, fun s H C cl fp => w_list (enc := PyData.int) (g_v g' (h1 s H C cl fp) ?_), fun b hb H2 v2 e2 al2 en2 => ⟨_, wipe_set (List.mem_singleton.mpr rfl), fun _ z => z, fun s H C cl fp => r_var (h2 s H C cl fp) ?_ en2⟩⟩
    · rw [List.getElem?_set_self (by rw [wipeG_len]; exact blt li)]; rfl
    · rw [List.getElem?_set_self]
      rw [wipe_length, g'.len, List.length_set, wipeG_len]; exact blt lj
end
section
variable {X : Cx} {S : List Addr} {Bs : List Hp} {Γ : Ga} {M M' M1 : Ce} {R : RV} {a b e : Expr} {pos p : Pos} {σ : L2.St} {H : Hp} {D : Ends} {rest : List Stmt} {β : Type} {en : List Int → β → RV} {m : List (List Int × β)} {l : Addr} {j : Nat}
theorem g_lenT (g : Sg S Bs Γ M σ H) (hM : M[j]? = some (l, dicC en m)) (hm : X.mg "len" = none) (ha : PE X a (tR S σ H (isR l))) (hg : Gl X "len" := by rfl) (hs : starEach [a] X.env = (false, eval a X.env) :: starEach [] X.env := by rfl) : PE X (.Call (.Name "len" p) [a] [] pos) (tR S σ H (isD (.int m.length))) :=
  r_callB L2.call_len_dT hm boot_len (ra_cons (isR_mono l) ha ra_nil hs) (fun vs H' e _ h Q k => by
    obtain ⟨v, ws, rfl, h1, h2⟩ := h
    obtain rfl : v = .ref l := h1
    obtain rfl : ws = [] := h2
    obtain ⟨_, _, _, o, ho, kvs, rfl, dk⟩ := g.ce (l, dicC en m) (List.mem_of_getElem? hM)
    refine ⟨l, kvs, rfl, e _ _ ho, ?_⟩
    rw [dk.length]; exact k _ H' (Ex.refl _) (.int _)) hg (he := hs)
theorem g_sortT (g : Sg S Bs Γ M σ H) (hM : M[j]? = some (l, dicC en m)) (hc : X.calm = true) (hm : X.mg "sorted" = none) (ha : PE X a (tR S σ H (isR l))) (hn : ∀ q ∈ m, q.1 ≠ []) (hg : Gl X "sorted" := by rfl) (hs : starEach [a] X.env = (false, eval a X.env) :: starEach [] X.env := by rfl) :
    PE X (.Call (.Name "sorted" p) [a] [] pos) (tR S σ H (isD (lvec (vsort (m.map (·.1)))))) :=
  r_callB (cr_sortD hc) hm (by decide +kernel) (ra_cons (isR_mono l) ha ra_nil hs) (fun vs H' e al h Q k => by
    obtain ⟨v, ws, rfl, h1, h2⟩ := h
    obtain rfl : v = .ref l := h1
    obtain rfl : ws = [] := h2
    obtain ⟨_, _, _, o, ho, kvs, rfl, dk⟩ := g.ce (l, dicC en m) (List.mem_of_getElem? hM)
    refine ⟨l, kvs, m.map (·.1), rfl, e _ _ ho, dk.keys, fun c hc => ?_, fun bs p h1 h2 h3 hp => ?_⟩
    · obtain ⟨q, hq, rfl⟩ := List.mem_map.mp hc
      exact hn q hq
    · have e2 : bs.map (rdT H') = vsort (m.map (·.1)) := vsort_uniq h1 h2
      refine k _ _ (Ex.new hp) (.lst (hid_new al hp) ?_)
      rw [← e2]
      have : ∀ cs : List Addr, (∀ b ∈ cs, b ∈ bs) → DtA (hid S (upd H' p (.lst (bs.map V.ref)))) (cs.map V.ref) ((cs.map (rdT H')).map vec) := by
        intro cs
        induction cs with
        | nil => intro _; exact .nil
        | cons c cs ih =>
          intro hcs
          have hc := h3 c (hcs c List.mem_cons_self)
          exact .cons (Dt.vecO ((hid_ex (Ex.new hp)) _ _ (by rw [hid_out (al.tup hc)]; exact hc))) (ih fun b hb => hcs b (List.mem_cons_of_mem _ hb))
      exact this bs fun _ h => h) hg (he := hs)
end
end N34

set_option Elab.async false
set_option linter.all false
set_option maxRecDepth 100000
/-! plain: covers -/
namespace N34
open PySem
theorem addL_cons {x y : Int} {a b : List Int} : addL (x :: a) (y :: b) = (x + y) :: addL a b := by unfold addL; rfl
theorem addL_nil {b : List Int} : addL [] b = [] := by unfold addL; rfl
theorem subL_cons {x y : Int} {a b : List Int} : subL (x :: a) (y :: b) = (x - y) :: subL a b := by unfold subL; rfl
theorem subL_nil {b : List Int} : subL [] b = [] := by unfold subL; rfl
theorem leB_cons {x y : Int} {a b : List Int} : leB (x :: a) (y :: b) = (decide (x ≤ y) && leB a b) := by unfold leB; rfl
theorem leB_nil {b : List Int} : leB [] b = true := by unfold leB; rfl
def gain : List Int → List Int → Int
  | a :: wanted, x :: w => min a x + gain wanted w
  | _, _ => 0
theorem gain_mono : ∀ {wanted w b : List Int}, w.length = wanted.length → b.length = wanted.length → (∀ x ∈ b, 0 ≤ x) → gain wanted w ≤ gain wanted (addL w b)
  | [], _, _, _, _, _ => by simp [gain]
  | a :: wanted, [], _, h, _, _ => by simp at h
  | a :: wanted, _ :: _, [], _, h, _ => by simp at h
  | a :: wanted, x :: w, y :: b, h1, h2, h3 => by
    rw [addL_cons]
    have ih := gain_mono (wanted := wanted) (w := w) (b := b) (by simpa using h1) (by simpa using h2) fun z hz => h3 z (List.mem_cons_of_mem _ hz)
    have := h3 y List.mem_cons_self
    simp only [gain]
    omega
theorem gain_step : ∀ {wanted w b : List Int} (f : Nat), w.length = wanted.length → b.length = wanted.length → (∀ x ∈ b, 0 ≤ x) → (w[f]?).getD 0 < (wanted[f]?).getD 0 → 0 < (b[f]?).getD 0 → gain wanted w + 1 ≤ gain wanted (addL w b)
  | [], w, b, f, h1, h2, _, h, _ => by
    have : w = [] := List.length_eq_zero_iff.mp h1
    subst this; simp at h
  | a :: wanted, [], _, _, h, _, _, _, _ => by simp at h
  | a :: wanted, _ :: _, [], _, _, h, _, _, _ => by simp at h
  | a :: wanted, x :: w, y :: b, 0, h1, h2, h3, h4, h5 => by
    rw [addL_cons]
    have ih := gain_mono (wanted := wanted) (w := w) (b := b) (by simpa using h1) (by simpa using h2) fun z hz => h3 z (List.mem_cons_of_mem _ hz)
    simp at h4 h5
    simp only [gain]
    omega
  | a :: wanted, x :: w, y :: b, f + 1, h1, h2, h3, h4, h5 => by
    rw [addL_cons]
    have ih := gain_step (wanted := wanted) (w := w) (b := b) f (by simpa using h1) (by simpa using h2) (fun z hz => h3 z (List.mem_cons_of_mem _ hz)) (by simpa using h4) (by simpa using h5)
    have := h3 y List.mem_cons_self
    simp only [gain]
    omega
theorem gain_le : ∀ {wanted w : List Int}, w.length = wanted.length → gain wanted w ≤ wanted.sum
  | [], _, _ => by simp [gain]
  | a :: wanted, [], h => by simp at h
  | a :: wanted, x :: w, h => by
    have ih := gain_le (wanted := wanted) (w := w) (by simpa using h)
    simp only [gain, List.sum_cons]; omega
theorem gain_lt : ∀ {wanted w : List Int} (f : Nat), w.length = wanted.length → (w[f]?).getD 0 < (wanted[f]?).getD 0 → gain wanted w + 1 ≤ wanted.sum
  | [], w, f, h1, h => by
    have : w = [] := List.length_eq_zero_iff.mp h1
    subst this; simp at h
  | a :: wanted, [], _, h, _ => by simp at h
  | a :: wanted, x :: w, 0, h1, h => by
    have ih := gain_le (wanted := wanted) (w := w) (by simpa using h1)
    simp at h
    simp only [gain, List.sum_cons]; omega
  | a :: wanted, x :: w, f + 1, h1, h => by
    have ih := gain_lt (wanted := wanted) (w := w) f (by simpa using h1) (by simpa using h)
    simp only [gain, List.sum_cons]; omega
theorem gain_zer : ∀ {wanted : List Int}, (∀ x ∈ wanted, 0 ≤ x) → gain wanted (List.replicate wanted.length 0) = 0
  | [], _ => rfl
  | a :: wanted, h => by
    rw [List.length_cons, List.replicate_succ]
    have ih := gain_zer (wanted := wanted) fun x hx => h x (List.mem_cons_of_mem _ hx)
    have := h a List.mem_cons_self
    simp only [gain, ih]; omega
/-- of a wanted crowd a level's covers: so many members, their sum -/
structure CvInv (k : Nat) (B : List (List Int)) (wanted : List Int) (j : Nat) (m : CvL) : Prop where
  len : ∀ p ∈ m, p.1.length = j
  idx : ∀ p ∈ m, ∀ i ∈ p.1, 0 ≤ i ∧ i < B.length
  wl : ∀ p ∈ m, p.2.length = k
  gn : ∀ p ∈ m, (j : Int) ≤ gain wanted p.2
  nl : ∀ p ∈ m, p.1 = [] → p.2 = zer k
theorem pt_len {β : Type} {m : List (List Int × β)} {c : List Int} {b : β} : (pt m c b).length ≤ m.length + 1 := by
  unfold pt
  split
  · rw [List.length_map]; omega
  · rw [List.length_append]; simp
theorem pt_mem {β : Type} {m : List (List Int × β)} {c : List Int} {b : β} {q : List Int × β} (h : q ∈ pt m c b) : q ∈ m ∨ q = (c, b) := by
  unfold pt at h
  split at h
  · obtain ⟨p, hp, e⟩ := List.mem_map.mp h
    by_cases z : p.1 = c
    · rw [if_pos z] at e; rw [← e, z]; exact .inr rfl
    · rw [if_neg z] at e; rw [← e]; exact .inl hp
  · rcases List.mem_append.mp h with h | h
    · exact .inl h
    · exact .inr (List.mem_singleton.mp h)
theorem CvInv.nil {k : Nat} {B : List (List Int)} {wanted : List Int} {j : Nat} : CvInv k B wanted j [] := ⟨fun _ h => (nomatch h), fun _ h => (nomatch h), fun _ h => (nomatch h), fun _ h => (nomatch h), fun _ h => (nomatch h)⟩
theorem short_mem {k : Nat} {whole wanted : List Int} {i : Int} : i ∈ short k whole wanted ↔ (0 ≤ i ∧ i < k) ∧ vAt whole i < vAt wanted i := by
  unfold short
  rw [List.mem_map]
  constructor
  · rintro ⟨j, hj, rfl⟩
    obtain ⟨h1, h2⟩ := List.mem_filter.mp hj
    have := List.mem_range.mp h1
    exact ⟨⟨by omega, by omega⟩, by simpa using h2⟩
  · rintro ⟨h1, h2⟩
    refine ⟨i.toNat, List.mem_filter.mpr ⟨List.mem_range.mpr (by omega), ?_⟩, by omega⟩
    have e : ((i.toNat : Nat) : Int) = i := by omega
    rw [e]; simpa using h2
theorem cvIn_inv {k : Nat} {B : List (List Int)} {wanted cover whole : List Int} {j : Nat} {f : Int} {later : CvL} {q : List Int × Nat} (vb : VB k B) (hw : wanted.length = k) (hq : q.1 ∈ B) (hq2 : q.2 < B.length) (h : CvInv k B wanted (j + 1) later)
    (h1 : cover.length = j) (h2 : ∀ i ∈ cover, 0 ≤ i ∧ i < B.length) (h3 : whole.length = k) (h4 : (j : Int) ≤ gain wanted whole) (hf : f ∈ short k whole wanted) : CvInv k B wanted (j + 1) (cvIn cover whole f later q) := by
  unfold cvIn
  split
  · rename_i hp
    obtain ⟨hf1, hf2⟩ := short_mem.mp hf
    have g := gain_step (wanted := wanted) (w := whole) (b := q.1) f.toNat (h3.trans hw.symm) ((vb.len _ hq).trans hw.symm) (vb.nn _ hq) (by unfold vAt at hf2; exact hf2) (by unfold vAt at hp; exact hp)
    have new : CvInv k B wanted (j + 1) [(isort (cover ++ [(q.2 : Int)]), addL whole q.1)] := by
      refine ⟨fun p hp => ?_, fun p hp i hi => ?_, fun p hp => ?_, fun p hp => ?_, fun p hp h0 => ?_⟩
      all_goals rw [List.mem_singleton.mp hp] at *
      · rw [(isort_perm _).length_eq]; simp [h1]
      · have := (isort_perm _).subset hi
        rcases List.mem_append.mp this with z | z
        · exact h2 i z
        · rw [List.mem_singleton.mp z]; omega
      · show (addL whole q.1).length = k
        unfold addL
        rw [List.length_map, List.length_zip, h3, vb.len _ hq, Nat.min_self]
      · show ((j + 1 : Nat) : Int) ≤ gain wanted (addL whole q.1)
        omega
      · have z := (isort_perm (cover ++ [(q.2 : Int)])).length_eq
        rw [show isort (cover ++ [(q.2 : Int)]) = [] from h0] at z
        simp at z
    exact ⟨fun p hp => (pt_mem hp).elim (h.len p) fun e => e ▸ new.len _ List.mem_cons_self, fun p hp => (pt_mem hp).elim (h.idx p) fun e => e ▸ new.idx _ List.mem_cons_self, fun p hp => (pt_mem hp).elim (h.wl p) fun e => e ▸ new.wl _ List.mem_cons_self,
      fun p hp => (pt_mem hp).elim (h.gn p) fun e => e ▸ new.gn _ List.mem_cons_self, fun p hp => (pt_mem hp).elim (h.nl p) fun e => e ▸ new.nl _ List.mem_cons_self⟩
  · exact h
theorem cvIn_len {cover whole : List Int} {f : Int} {later : CvL} {q : List Int × Nat} : (cvIn cover whole f later q).length ≤ later.length + 1 := by
  unfold cvIn
  split
  · exact pt_len
  · omega
theorem cvIn_fold_len {cover whole : List Int} {f : Int} : ∀ (pre : List (List Int × Nat)) (later : CvL), (pre.foldl (cvIn cover whole f) later).length ≤ later.length + pre.length
  | [], later => by simp
  | q :: pre, later => by
    rw [List.foldl_cons]
    have := cvIn_fold_len (cover := cover) (whole := whole) (f := f) pre (cvIn cover whole f later q)
    have := cvIn_len (cover := cover) (whole := whole) (f := f) (later := later) (q := q)
    rw [List.length_cons]; omega
theorem cvIn_fold_inv {k : Nat} {B : List (List Int)} {wanted cover whole : List Int} {j : Nat} {f : Int} (vb : VB k B) (hw : wanted.length = k) (h1 : cover.length = j) (h2 : ∀ i ∈ cover, 0 ≤ i ∧ i < B.length) (h3 : whole.length = k) (h4 : (j : Int) ≤ gain wanted whole) (hf : f ∈ short k whole wanted) :
    ∀ (pre : List (List Int × Nat)) (later : CvL), (∀ q ∈ pre, q.1 ∈ B ∧ q.2 < B.length) → CvInv k B wanted (j + 1) later → CvInv k B wanted (j + 1) (pre.foldl (cvIn cover whole f) later)
  | [], _, _, h => h
  | q :: pre, later, hp, h => cvIn_fold_inv vb hw h1 h2 h3 h4 hf pre _ (fun r hr => hp r (List.mem_cons_of_mem _ hr)) (cvIn_inv vb hw (hp q List.mem_cons_self).1 (hp q List.mem_cons_self).2 h h1 h2 h3 h4 hf)
theorem zip_ok {B : List (List Int)} {q : List Int × Nat} (h : q ∈ B.zipIdx) : q.1 ∈ B ∧ q.2 < B.length := by
  obtain ⟨j, hj⟩ := List.getElem?_of_mem h
  rw [List.getElem?_zipIdx] at hj
  cases c : B[j]? with
  | none => rw [c] at hj; cases hj
  | some a =>
    rw [c] at hj
    have e : (a, 0 + j) = q := Option.some.inj hj
    rw [← e]
    have := (List.getElem?_eq_some_iff.mp c).1
    exact ⟨List.mem_of_getElem? c, by show 0 + j < _; omega⟩
theorem short_hd {k : Nat} {whole wanted : List Int} (h : ¬ (short k whole wanted).length = 0) : vAt (short k whole wanted) 0 ∈ short k whole wanted := by
  unfold vAt
  cases e : short k whole wanted with
  | nil => rw [e] at h; exact absurd rfl h
  | cons a l => simp
theorem cvStep_inv {k : Nat} {B : List (List Int)} {wanted : List Int} {j : Nat} {m : CvL} (vb : VB k B) (hw : wanted.length = k) (hm : CvInv k B wanted j m) {p : List Int × List Int} (hp : p ∈ m) {st : CvF × CvL} (h : CvInv k B wanted (j + 1) st.2) :
    CvInv k B wanted (j + 1) (cvStep k B wanted st p).2 ∧ (cvStep k B wanted st p).2.length ≤ st.2.length + 8 ∧ (cvStep k B wanted st p).1.length ≤ st.1.length + 1 := by
  unfold cvStep
  split
  · refine ⟨h, by show st.2.length ≤ _; omega, ?_⟩
    show (if needless B wanted p.1 p.2 then st.1 else pt st.1 p.1 ()).length ≤ _
    split
    · omega
    · exact pt_len
  · rename_i hs
    refine ⟨cvIn_fold_inv vb hw (hm.len p hp) (hm.idx p hp) (hm.wl p hp) (hm.gn p hp) (short_hd hs) _ _ (fun q hq => zip_ok hq) h, ?_, by show st.1.length ≤ _; omega⟩
    have := cvIn_fold_len (cover := p.1) (whole := p.2) (f := vAt (short k p.2 wanted) 0) B.zipIdx st.2
    have h8 := vb.few
    rw [List.length_zipIdx] at this
    show (B.zipIdx.foldl (cvIn p.1 p.2 (vAt (short k p.2 wanted) 0)) st.2).length ≤ _
    omega
theorem cvStep_fold {k : Nat} {B : List (List Int)} {wanted : List Int} {j : Nat} {m : CvL} (vb : VB k B) (hw : wanted.length = k) (hm : CvInv k B wanted j m) : ∀ (pre : CvL) (st : CvF × CvL), (∀ p ∈ pre, p ∈ m) → CvInv k B wanted (j + 1) st.2 →
    CvInv k B wanted (j + 1) (pre.foldl (cvStep k B wanted) st).2 ∧ (pre.foldl (cvStep k B wanted) st).2.length ≤ st.2.length + 8 * pre.length ∧ (pre.foldl (cvStep k B wanted) st).1.length ≤ st.1.length + pre.length
  | [], st, _, h => ⟨h, by simp, by simp⟩
  | p :: pre, st, hp, h => by
    obtain ⟨h1, h2, h3⟩ := cvStep_inv vb hw hm (hp p List.mem_cons_self) h
    obtain ⟨h4, h5, h6⟩ := cvStep_fold vb hw hm pre (cvStep k B wanted st p) (fun q hq => hp q (List.mem_cons_of_mem _ hq)) h1
    rw [List.foldl_cons, List.length_cons]
    exact ⟨h4, by omega, by omega⟩
theorem CvInv.lvl {k : Nat} {B : List (List Int)} {wanted : List Int} {j : Nat} {m : CvL} (hw : wanted.length = k) (h : CvInv k B wanted j m) (hne : ¬ m.length = 0) : (j : Int) ≤ wanted.sum := by
  cases m with
  | nil => exact absurd rfl hne
  | cons p m =>
    have h1 := h.gn p List.mem_cons_self
    have h2 := gain_le (wanted := wanted) (w := p.2) ((h.wl p List.mem_cons_self).trans hw.symm)
    omega
theorem CvInv.zero {k : Nat} {B : List (List Int)} {wanted : List Int} (hw : wanted.length = k) (hn : ∀ x ∈ wanted, 0 ≤ x) : CvInv k B wanted 0 [([], zer k)] := by
  refine ⟨fun p hp => ?_, fun p hp i hi => ?_, fun p hp => ?_, fun p hp => ?_, fun p hp _ => ?_⟩
  all_goals rw [List.mem_singleton.mp hp] at *
  · rfl
  · cases hi
  · show (zer k).length = k
    unfold zer; exact List.length_replicate
  · show ((0 : Nat) : Int) ≤ gain wanted (zer k)
    have := gain_zer hn
    unfold zer
    rw [hw] at this
    rw [this]; exact Int.le_refl _
/-- no found cover is empty -/
def FInv (m : CvF) : Prop := ∀ p ∈ m, p.1 ≠ []
theorem vAt_zer {k : Nat} {i : Int} : vAt (zer k) i = 0 := by
  unfold vAt zer
  rw [List.getElem?_replicate]
  split <;> rfl
theorem cvStep_found {k : Nat} {B : List (List Int)} {wanted : List Int} {j : Nat} {m : CvL} (hm : CvInv k B wanted j m) (hw : ∃ i : Int, (0 ≤ i ∧ i < k) ∧ 0 < vAt wanted i) {p : List Int × List Int} (hp : p ∈ m) {st : CvF × CvL} (h : FInv st.1) : FInv (cvStep k B wanted st p).1 := by
  unfold cvStep
  split
  · rename_i hs
    show FInv (if needless B wanted p.1 p.2 then st.1 else pt st.1 p.1 ())
    split
    · exact h
    · intro q hq
      rcases pt_mem hq with z | z
      · exact h q z
      · rw [z]
        intro e
        obtain ⟨i, h1, h2⟩ := hw
        have : i ∈ short k p.2 wanted := short_mem.mpr ⟨h1, by rw [hm.nl p hp e, vAt_zer]; exact h2⟩
        rw [List.length_eq_zero_iff.mp hs] at this
        cases this
  · exact h
theorem cvStep_foundF {k : Nat} {B : List (List Int)} {wanted : List Int} {j : Nat} {m : CvL} (hm : CvInv k B wanted j m) (hw : ∃ i : Int, (0 ≤ i ∧ i < k) ∧ 0 < vAt wanted i) : ∀ (pre : CvL) (st : CvF × CvL), (∀ p ∈ pre, p ∈ m) → FInv st.1 → FInv (pre.foldl (cvStep k B wanted) st).1
  | [], st, _, h => h
  | p :: pre, st, hp, h => cvStep_foundF hm hw pre _ (fun q hq => hp q (List.mem_cons_of_mem _ hq)) (cvStep_found hm hw (hp p List.mem_cons_self) h)
theorem cvLoop_nil {k : Nat} {B : List (List Int)} {wanted : List Int} {found : CvF} : ∀ n, cvLoop k B wanted n [] found = found
  | 0 => rfl
  | n + 1 => rfl
theorem cvLoop_succ {k : Nat} {B : List (List Int)} {wanted : List Int} {n : Nat} {fresh : CvL} {found : CvF} (h : ¬ fresh.length = 0) : cvLoop k B wanted (n + 1) fresh found = cvLoop k B wanted n (fresh.foldl (cvStep k B wanted) (found, [])).2 (fresh.foldl (cvStep k B wanted) (found, [])).1 := by
  rw [cvLoop, if_neg h]
end N34

set_option Elab.async false
set_option linter.all false
set_option maxRecDepth 100000
set_option maxHeartbeats 1000000
/-! defs with effects; tuples and comprehensions with effects; how large a dict is -/
namespace N34
open PySem PySem.Spec PyProof.Rows L2
section
variable {X : Cx} {S : List Addr} {Bs : List Hp} {Γ : Ga} {M M' M1 M2 : Ce} {R Ra Rb Rz : RV} {a b e c elt tg iter : Expr} {es ifs : List Expr} {pos : Pos} {d : PyData} {σ : L2.St} {H : Hp} {α β : Type} {scope : Scope}
theorem e_tup {ds : List PyData} {k : Nat} (h : PA X es (tGA S Bs Γ M M' (ds.map isD))) (hl : ds.length ≤ 100000 := by exact Nat.le_of_ble_eq_true rfl) : PE X (.Tuple es k pos) (tG S Bs Γ M M' (isD (.tuple ds))) :=
  PE_imp (pe_tup h) fun σ H Q ⟨g, kk⟩ => ⟨g, fun vs H1 g1 e1 rs => ⟨sz (by rw [rs.dt.length]; exact hl), fun p hp => kk _ _ (g1.next (Ex.new hp)) (e1.trans (hid_ex (Ex.new hp))) (.tup (hid_new g1.al hp) (rs.dt.mono (hid_ex (Ex.new hp))))⟩⟩
/-- what is walked behind effects -/
def tWG {α : Type} (S : List Addr) (Bs : List Hp) (Γ : Ga) (M M' : Ce) (xs : List α) (enc : α → RV) : TI := fun σ H R => Sg S Bs Γ M σ H ∧ ∀ J H1, Sg S Bs Γ M' σ H1 → Ex (hid S H) (hid S H1) → WkE J S H1 xs enc → R J H1
theorem w_tupG {xs : List α} {enc : α → PyData} (h : PE X e (tG S Bs Γ M M' (isD (.tuple (xs.map enc))))) : PI X tg e (tWG S Bs Γ M M' xs fun x => isD (enc x)) :=
  PI_imp (pi_tup h) fun σ H Q ⟨g, k⟩ => ⟨g, fun v H1 g1 e1 r => by
    obtain ⟨p, vs, rfl, h3, h4⟩ := r.tupI
    have hl : vs.length = xs.length := by rw [h4.length, List.length_map]
    have h0 : ∀ S' H, Ex (hid S H1) (hid S' H) → SqT X.K H p vs := fun S' H e => SqT.of (e.hidd h3)
    refine ⟨p, rfl, ⟨vs, SqT.of (hid_le _ _ h3)⟩, k _ _ g1 e1 ⟨fun i S' H hi _ e _ => ⟨vs, vs[i]'(by rw [hl]; exact hi), h0 S' H e, by simp [hl, hi]⟩, fun S' H _ e _ => ⟨vs, h0 S' H e, by rw [hl]; exact Nat.le_refl _⟩, fun i a S' H x H' hi _ e _ y => ?_⟩⟩
    obtain ⟨y1, y2⟩ := y
    rw [y1]
    obtain ⟨v, hv, hd⟩ := h4.get (i := i) (d := enc a) (by rw [List.getElem?_map, hi]; rfl)
    have := y2 vs (h0 S' H e)
    rw [hv] at this
    cases this
    exact ⟨Ex.refl _, hd.mono e⟩⟩
theorem e_lc {xs : List α} {enc : α → RV} {g : TG} {own : List (Str × Nat)} {p : α → Bool} {f : α → β} (en : β → PyData) (hc : X.calm = true) (hN : X.N.Nodup) (hi : PI X tg iter (tWG S Bs Γ M M' xs enc)) (ok : BlkOk X.N X.env.scope scope own)
    (hg : Blk X scope fun Y => PG Y tg g) (hl : xs.length ≤ 100000)
    (h : ∀ σ H, Sg S Bs Γ M' σ H → ∀ a ∈ xs, ∀ S' H' v, Up S H S' H' → enc a v (hid S' H') → Item X scope elt ifs g (own.map (·.2)) (L2.wipe σ (own.map (·.2))) S' H' v (p a) (en (f a))) (hs : ∀ x, foldedSetIterable iter X.env x = pure x := by intro _; rfl) :
    PE X (.ListComp elt [⟨tg, iter, ifs, 0⟩] scope pos) (tG S Bs Γ M M' (isD (.list (((xs.filter p).map f).map en)))) :=
  PE_imp (pe_lc hc hN hi ok hg pts_ttB pe_teB hs) fun σ H Q ⟨g0, k⟩ => ⟨g0, fun J H1 g1 e1 W => by
    have q := lc_R (S := S) (f := en ∘ f) (wi := tWE S σ H1 xs enc) rfl hl (h σ H1 g1) σ H1 Q ⟨rfl, Ex.refl _, g1.al, fun v H2 e2 r => k v H2 (g1.next e2) (e1.trans (hid_ex e2)) (by rw [List.map_map]; exact r)⟩
    obtain ⟨_, _, _, q⟩ := q
    exact q J H1 (Ex.refl _) W⟩
theorem trip_of {a b c : PyData} {v : V} {F : Hp} (h : Dt F v (.tuple [a, b, c])) : tripR (isD a) (isD b) (isD c) v F := by
  obtain ⟨t, xs, rfl, h1, h2⟩ := h.tupI
  cases h2 with
  | cons x r => cases r with
    | cons y r => cases r with
      | cons z r => cases r with
        | nil => exact ⟨t, _, _, _, rfl, h1, x, y, z⟩
theorem pair_of {a b : PyData} {v : V} {F : Hp} (h : Dt F v (.tuple [a, b])) : pairR (isD a) (isD b) v F := by
  obtain ⟨t, xs, rfl, h1, h2⟩ := h.tupI
  cases h2 with
  | cons x r => cases r with
    | cons y r => cases r with
      | nil => exact ⟨t, _, _, rfl, h1, x, y⟩
end
/-! ### defs with effects, by their body -/
structure EndE (S : List Addr) (M M' : Ce) (H : Hp) (R : RV) (v : V) (H' : Hp) : Prop where
  ex : Ex (hid (M.map (·.1)) H) H'
  ce : CeOk S M' H'
  r : R v (hid S H')
abbrev endsE (S : List Addr) (M M' : Ce) (H : Hp) (R : RV) : Ends := { nx := fun _ H' => EndE S M M' H R .non H', rt := fun v H' => EndE S M M' H R v H' }
section
variable {P : Program} {w : World} {K : PySem.W.Frag} {mg : Str → Option Value} {base : Heap}
theorem cl_E {x : Str} {st : Stmt} {N ps : List Str} {k : Nat} {pre : List V → Hp → Ce → Ce → RV → Prop} (F : FnAt K mg x st) (sc : FnScope N ps (defScope st)) (len : ∀ vs F M M' R, pre vs F M M' R → vs.length = ps.length)
    (hb : ∀ (kV doc pm : Value) (an : Option Addr) (cdv ct : Value) (us : List Value), us.length = ps.length → bindArgs (PySem.W.fnOf x x (defArgs st) (defBody st) (defScope st) .none kV doc pm an cdv ct) ⟨us, []⟩ = pure (ps.zip us))
    (body : ∀ f cdv A outer s H vs S M M' R E, Room k (A.deeper (envOfC x (defScope st) s.heap.objs.size f cdv)) → Al S H → CeOk S M H → pre vs (hid S H) M M' R → SW (cxD P w K mg base N x st f cdv A outer s H E) (endsE S M M' H R) (defBody st) (start N vs) H) :
    Cl P w K mg base x (k + 1) ps (spE pre) := by
  obtain ⟨f, fd, Fd, hm⟩ := F.ex
  refine ⟨f, fd, Fd.ok sc (fun vs H Q E h => ?_) (fun cdv A outer s H vs Q E hr h => ?_), hm, Fd.kp, Fd.bindsN hb⟩
  · obtain ⟨S, M, M', R, al, c, h, _⟩ := h
    exact len vs _ M M' R h
  · obtain ⟨S, M, M', R, al, c, h, _, q⟩ := h
    exact ⟨_, PSs.nox pss_SW, SW_mono (body f cdv A outer s H vs S M M' R E hr al c h) (fun σ H' z => q _ _ z.ex z.ce z.r) (fun v H' z => q _ _ z.ex z.ce z.r)⟩
theorem fin_E {S : List Addr} {Bs : List Hp} {Γ : Ga} {M M' : Ce} {σ : L2.St} {H H' : Hp} {R : RV} {v : V} (g : Sg S (hid (M.map (·.1)) H :: Bs) Γ M' σ H') (r : R v (hid S H')) : EndE S M M' H R v H' :=
  ⟨g.ex _ List.mem_cons_self, ⟨fun p hp => have q := g.ce p hp; ⟨q.1, q.2.2⟩, g.nd⟩, r⟩
end
/-! ### how large a dict is -/
theorem pig {α : Type} [DecidableEq α] : ∀ {l m : List α}, l.Nodup → (∀ a ∈ l, a ∈ m) → l.length ≤ m.length
  | [], _, _, _ => Nat.zero_le _
  | a :: l, m, hn, h => by
    obtain ⟨h1, h2⟩ := List.nodup_cons.mp hn
    have ha := h a List.mem_cons_self
    have := pig (m := m.erase a) h2 fun b hb => (List.mem_erase_of_ne (fun e => h1 (by rw [← e]; exact hb))).mpr (h b (List.mem_cons_of_mem _ hb))
    rw [List.length_erase_of_mem ha] at this
    have := List.length_pos_of_mem ha
    rw [List.length_cons]; omega
def boxes (n : Nat) : Nat → List (List Int)
  | 0 => [[]]
  | k + 1 => (List.range (n + 1)).flatMap fun x => (boxes n k).map fun r => ((x : Nat) : Int) :: r
theorem boxes_len (n : Nat) : ∀ k, (boxes n k).length = (n + 1) ^ k
  | 0 => rfl
  | k + 1 => by
    unfold boxes
    rw [List.length_flatMap]
    have : ((List.range (n + 1)).map fun x => ((boxes n k).map fun r => ((x : Nat) : Int) :: r).length) = List.replicate (n + 1) ((n + 1) ^ k) := by
      rw [List.eq_replicate_iff]
      exact ⟨by simp, fun b hb => by obtain ⟨x, _, rfl⟩ := List.mem_map.mp hb; rw [List.length_map, boxes_len n k]⟩
    rw [this, List.sum_replicate_nat, Nat.pow_succ, Nat.mul_comm]
/-- a crowd of k kinds -/
structure CrOk (k : Nat) (x : List Int) : Prop where
  len : x.length = k
  nn : ∀ i ∈ x, 0 ≤ i
theorem sum_nn : ∀ {l : List Int}, (∀ x ∈ l, 0 ≤ x) → 0 ≤ l.sum
  | [], _ => by simp
  | a :: l, h => by
    have := sum_nn (l := l) fun x hx => h x (List.mem_cons_of_mem _ hx)
    have := h a List.mem_cons_self
    rw [List.sum_cons]; omega
theorem le_sum : ∀ {l : List Int}, (∀ x ∈ l, 0 ≤ x) → ∀ x ∈ l, x ≤ l.sum
  | a :: l, h, x, hx => by
    have h1 := sum_nn (l := l) fun x hx => h x (List.mem_cons_of_mem _ hx)
    have h2 := h a List.mem_cons_self
    rw [List.sum_cons]
    rcases List.mem_cons.mp hx with e | hx
    · omega
    · have := le_sum (fun x hx => h x (List.mem_cons_of_mem _ hx)) x hx; omega
theorem boxes_mem {n : Nat} : ∀ {k : Nat} {x : List Int}, CrOk k x → x.sum ≤ n → x ∈ boxes n k
  | 0, [], _, _ => by simp [boxes]
  | 0, _ :: _, h, _ => by have := h.len; simp at this
  | k + 1, [], h, _ => by have := h.len; simp at this
  | k + 1, a :: x, h, hs => by
    have ha := h.nn a List.mem_cons_self
    have hx : CrOk k x := ⟨by simpa using h.len, fun i hi => h.nn i (List.mem_cons_of_mem _ hi)⟩
    have h1 := sum_nn hx.nn
    rw [List.sum_cons] at hs
    unfold boxes
    rw [List.mem_flatMap]
    exact ⟨a.toNat, List.mem_range.mpr (by omega), List.mem_map.mpr ⟨x, boxes_mem hx (by omega), by rw [Int.toNat_of_nonneg ha]⟩⟩
/-- distinct crowds of k kinds and at most n members -/
structure BxOk (k n : Nat) (l : List (List Int)) : Prop where
  nd : l.Nodup
  cr : ∀ x ∈ l, CrOk k x ∧ x.sum ≤ n
theorem BxOk.few {k n : Nat} {l : List (List Int)} (h : BxOk k n l) : l.length ≤ (n + 1) ^ k := by
  rw [← boxes_len]; exact pig h.nd fun x hx => boxes_mem (h.cr x hx).1 (h.cr x hx).2
theorem pt_keys {β : Type} {m : List (List Int × β)} {c : List Int} {b : β} : (pt m c b).map (·.1) = if c ∈ m.map (·.1) then m.map (·.1) else m.map (·.1) ++ [c] := by
  have e : (m.any fun p => decide (p.1 = c)) = decide (c ∈ m.map (·.1)) := by
    rw [Bool.eq_iff_iff]; simp
  unfold pt
  rw [e]
  by_cases h : c ∈ m.map (·.1)
  · rw [if_pos (decide_eq_true h), if_pos h, List.map_map]
    refine List.map_congr_left fun p hp => ?_
    show (if p.1 = c then (p.1, b) else p).1 = p.1
    split <;> rfl
  · rw [if_neg (by rw [decide_eq_false h]; decide), if_neg h, List.map_append]; rfl
theorem BxOk.put {β : Type} {k n : Nat} {m : List (List Int × β)} {c : List Int} {b : β} (h : BxOk k n (m.map (·.1))) (hc : CrOk k c) (hs : c.sum ≤ n) : BxOk k n ((pt m c b).map (·.1)) := by
  rw [pt_keys]
  split
  · exact h
  · rename_i hn
    exact ⟨List.nodup_append.mpr ⟨h.nd, by simp, fun a ha b hb => by rw [List.mem_singleton.mp hb]; exact fun e => hn (e ▸ ha)⟩, fun x hx => (List.mem_append.mp hx).elim (h.cr x) fun e => by rw [List.mem_singleton.mp e]; exact ⟨hc, hs⟩⟩
theorem BxOk.nil {k n : Nat} : BxOk k n [] := ⟨List.nodup_nil, fun _ h => nomatch h⟩
theorem lk_some {β : Type} {m : List (List Int × β)} {c : List Int} : (lk m c).isSome = decide (c ∈ m.map (·.1)) := by
  unfold lk
  rw [Option.isSome_map, Bool.eq_iff_iff, List.find?_isSome, decide_eq_true_eq, List.mem_map]
  simp
theorem lk_mem {β : Type} {m : List (List Int × β)} {c : List Int} {b : β} (h : lk m c = some b) : (c, b) ∈ m := by
  unfold lk at h
  cases e : m.find? (fun p => decide (p.1 = c)) with
  | none => rw [e] at h; cases h
  | some p =>
    rw [e] at h
    have h1 := List.find?_some e
    have h2 := List.mem_of_find?_eq_some e
    have e1 : p.1 = c := of_decide_eq_true h1
    have e2 : p.2 = b := by simpa using h
    rw [← e1, ← e2]; exact h2
theorem lk_pt_same {β : Type} {m : List (List Int × β)} {c : List Int} {b : β} : lk (pt m c b) c = some b := by
  unfold pt lk
  split
  · rename_i h
    induction m with
    | nil => simp at h
    | cons p m ih =>
      rw [List.map_cons]
      by_cases e : p.1 = c
      · rw [if_pos e]; simp [e]
      · rw [if_neg e, List.find?_cons_of_neg (by simpa using e)]
        exact ih (by simpa [e] using h)
  · rename_i h
    rw [List.find?_append]
    have : m.find? (fun p => decide (p.1 = c)) = none := by
      rw [List.find?_eq_none]; intro p hp; have h' := fun z => h (List.any_eq_true.mpr ⟨p, hp, z⟩); simpa using h'
    rw [this]; simp
theorem find_set {β : Type} {c x : List Int} {b : β} (hx : x ≠ c) : ∀ m : List (List Int × β), (m.map fun p => if p.1 = c then (p.1, b) else p).find? (fun p => decide (p.1 = x)) = m.find? fun p => decide (p.1 = x)
  | [] => rfl
  | p :: m => by
    rw [List.map_cons]
    by_cases e : p.1 = c
    · rw [if_pos e, List.find?_cons_of_neg (by simpa [e] using fun z => hx z.symm), List.find?_cons_of_neg (by simpa [e] using fun z => hx z.symm)]
      exact find_set hx m
    · rw [if_neg e]
      by_cases e2 : p.1 = x
      · rw [List.find?_cons_of_pos (by simpa using e2), List.find?_cons_of_pos (by simpa using e2)]
      · rw [List.find?_cons_of_neg (by simpa using e2), List.find?_cons_of_neg (by simpa using e2)]; exact find_set hx m
theorem lk_pt_ne {β : Type} {m : List (List Int × β)} {c x : List Int} {b : β} (hx : x ≠ c) : lk (pt m c b) x = lk m x := by
  unfold pt lk
  split
  · rw [find_set hx]
  · rw [List.find?_append]
    have : [(c, b)].find? (fun p => decide (p.1 = x)) = none := by simp; exact fun z => hx (Eq.symm z)
    rw [this]; simp
end N34

set_option Elab.async false
set_option linter.all false
set_option maxRecDepth 100000
set_option maxHeartbeats 1000000
namespace N34
open PySem PySem.Spec PyProof.Rows L2
local macro_rules | `(tactic| walk_at "sz") => `(tactic| first | assumption | omega | (simp only [List.length_zip, List.length_map, List.length_range, List.length_zipIdx]; omega))
section
variable {P : Program} {w : World} {K : PySem.W.Frag} {mg : Str → Option Value} {base : Heap}
/-! ### within, less, more -/
abbrev vv (p : List Int × List Int) : List RV := [isD (vec p.1), isD (vec p.2)]
abbrev sWith := spF (spD vv (fun p => p.1.length ≤ 100) fun p => .bool (leB p.1 p.2))
abbrev sLe := spF (spD vv (fun p => p.1.length ≤ 100) fun p => vec (subL p.1 p.2))
abbrev sMo := spF (spD vv (fun p => p.1.length ≤ 100) fun p => vec (addL p.1 p.2))
-- def within one:v other:v
theorem scWithin : FnScope ["one", "other", "x", "y"] ["one", "other"] (defScope sWithin) := ⟨rfl, rfl, rfl, by decide +kernel, rfl, by decide +kernel, by decide +kernel⟩
theorem ok_within (B : Bl mg) (F : FnAt K mg "within" sWithin) : Cl P w K mg base "within" 1 ["one", "other"] sWith := by
  refine cl_D F scWithin (fun p => ⟨isD_mono _, isD_mono _, trivial⟩) (fun _ => rfl) (by decide) (fun _ _ _ _ _ _ us hl => match us, hl with | [_, _], _ => rfl) (fun f cdv A outer s H σ S R E p hr g hs hR => ?_)
  obtain ⟨a, b⟩ := p
  have hs' : a.length ≤ 100 := hs
  exact gs_ret g (r_eq (r_all rfl B.all (r_lcA (own := [("x", 2), ("y", 3)]) .bool rfl scWithin.nd (w_zipT B.zip (g_v g (pv 0) rfl) (g_v g (pv 1) rfl)) (blkOk_by (N := ["one", "other", "x", "y"]) (sc := defScope sWithin) (by decide +kernel)) (fun _ _ _ _ _ => pg_tup rfl (pgs_cons (pg_name (i := 2) scWithin.nd rfl (by first | exact Or.inl rfl | exact Or.inr rfl)) (pgs_cons (pg_name (i := 3) scWithin.nd rfl (by first | exact Or.inl rfl | exact Or.inr rfl)) pgs_nil))) (by walk_at "sz") (it_pair g (i := 2) (j := 3) (by decide) (by decide) rfl rfl (fun _ => isD_mono _) (fun _ => isD_mono _) (fun a1 ha1 _ _ _ g1 => ⟨b_nil, fun hp1 _ _ _ _ _ => (r_le (g_v g1 (pv 2) rfl) (g_v g1 (pv 3) rfl))⟩)))) (by unfold leB; rfl)) fun v H' g' r => fin_D g' (fun _ h => h) r hR
-- def less one:v other:v
theorem scLess : FnScope ["one", "other", "x", "y"] ["one", "other"] (defScope sLess) := ⟨rfl, rfl, rfl, by decide +kernel, rfl, by decide +kernel, by decide +kernel⟩
theorem ok_less (B : Bl mg) (F : FnAt K mg "less" sLess) : Cl P w K mg base "less" 1 ["one", "other"] sLe := by
  refine cl_D F scLess (fun p => ⟨isD_mono _, isD_mono _, trivial⟩) (fun _ => rfl) (by decide) (fun _ _ _ _ _ _ us hl => match us, hl with | [_, _], _ => rfl) (fun f cdv A outer s H σ S R E p hr g hs hR => ?_)
  obtain ⟨a, b⟩ := p
  have hs' : a.length ≤ 100 := hs
  exact gs_ret g (r_eq (r_tupleL B.tuple (r_lcA (own := [("x", 2), ("y", 3)]) .int rfl scLess.nd (w_zipT B.zip (g_v g (pv 0) rfl) (g_v g (pv 1) rfl)) (blkOk_by (N := ["one", "other", "x", "y"]) (sc := defScope sLess) (by decide +kernel)) (fun _ _ _ _ _ => pg_tup rfl (pgs_cons (pg_name (i := 2) scLess.nd rfl (by first | exact Or.inl rfl | exact Or.inr rfl)) (pgs_cons (pg_name (i := 3) scLess.nd rfl (by first | exact Or.inl rfl | exact Or.inr rfl)) pgs_nil))) (by walk_at "sz") (it_pair g (i := 2) (j := 3) (by decide) (by decide) rfl rfl (fun _ => isD_mono _) (fun _ => isD_mono _) (fun a2 ha2 _ _ _ g2 => ⟨b_nil, fun hp2 _ _ _ _ _ => (r_sub (g_v g2 (pv 2) rfl) (g_v g2 (pv 3) rfl))⟩)))) (by unfold subL; rfl)) fun v H' g' r => fin_D g' (fun _ h => h) r hR
-- def more one:v other:v
theorem scMore : FnScope ["one", "other", "x", "y"] ["one", "other"] (defScope sMore) := ⟨rfl, rfl, rfl, by decide +kernel, rfl, by decide +kernel, by decide +kernel⟩
theorem ok_more (B : Bl mg) (F : FnAt K mg "more" sMore) : Cl P w K mg base "more" 1 ["one", "other"] sMo := by
  refine cl_D F scMore (fun p => ⟨isD_mono _, isD_mono _, trivial⟩) (fun _ => rfl) (by decide) (fun _ _ _ _ _ _ us hl => match us, hl with | [_, _], _ => rfl) (fun f cdv A outer s H σ S R E p hr g hs hR => ?_)
  obtain ⟨a, b⟩ := p
  have hs' : a.length ≤ 100 := hs
  exact gs_ret g (r_eq (r_tupleL B.tuple (r_lcA (own := [("x", 2), ("y", 3)]) .int rfl scMore.nd (w_zipT B.zip (g_v g (pv 0) rfl) (g_v g (pv 1) rfl)) (blkOk_by (N := ["one", "other", "x", "y"]) (sc := defScope sMore) (by decide +kernel)) (fun _ _ _ _ _ => pg_tup rfl (pgs_cons (pg_name (i := 2) scMore.nd rfl (by first | exact Or.inl rfl | exact Or.inr rfl)) (pgs_cons (pg_name (i := 3) scMore.nd rfl (by first | exact Or.inl rfl | exact Or.inr rfl)) pgs_nil))) (by walk_at "sz") (it_pair g (i := 2) (j := 3) (by decide) (by decide) rfl rfl (fun _ => isD_mono _) (fun _ => isD_mono _) (fun a3 ha3 _ _ _ g3 => ⟨b_nil, fun hp3 _ _ _ _ _ => (r_add (g_v g3 (pv 2) rfl) (g_v g3 (pv 3) rfl))⟩)))) (by unfold addL; rfl)) fun v H' g' r => fin_D g' (fun _ h => h) r hR
end
end N34

set_option Elab.async false
set_option linter.all false
set_option maxRecDepth 100000
set_option maxHeartbeats 1000000
/-! small defs -/
namespace N34
local macro_rules | `(tactic| walk_at "sz") => `(tactic| first | assumption | omega | (simp only [List.length_zip, List.length_map, List.length_range, List.length_zipIdx]; omega))
local macro_rules | `(tactic| walk_at "sd") => `(tactic| first | trivial | assumption)
open PySem PySem.Spec PyProof.Rows L2
theorem repl_len {k : Nat} : (zer k).length = k := by unfold zer; exact List.length_replicate
theorem addL_len {a b : List Int} : (addL a b).length = min a.length b.length := by unfold addL; rw [List.length_map, List.length_zip]
theorem subL_len {a b : List Int} : (subL a b).length = min a.length b.length := by unfold subL; rw [List.length_map, List.length_zip]
theorem bAt_mem {B : List (List Int)} {i : Int} (h : 0 ≤ i ∧ i < B.length) : bAt B i ∈ B := by
  unfold bAt
  have : i.toNat < B.length := by omega
  rw [List.getElem?_eq_getElem this]
  exact List.getElem_mem this
theorem ixN_of {n : Nat} {i : Int} (h : 0 ≤ i ∧ i < n) : ixN n i = some i.toNat := by
  unfold ixN; split <;> simp_all <;> omega
theorem atI_map {α : Type} {en : α → PyData} {xs : List α} {i : Int} (h : 0 ≤ i ∧ i < xs.length) (a : α) (ha : xs[i.toNat]? = some a) : atI (xs.map en) i = some (en a) := by
  unfold atI
  rw [List.length_map, ixN_of h]
  show (xs.map en)[i.toNat]? = _
  rw [List.getElem?_map, ha]; rfl
theorem atI_b {B : List (List Int)} {i : Int} (h : 0 ≤ i ∧ i < B.length) : atI (B.map vec) i = some (vec (bAt B i)) := by
  refine atI_map h _ ?_
  unfold bAt
  have : i.toNat < B.length := by omega
  rw [List.getElem?_eq_getElem this]; rfl
theorem atI_v {x : List Int} {i : Int} (h : 0 ≤ i ∧ i < x.length) : atI (x.map PyData.int) i = some (.int (vAt x i)) := by
  refine atI_map h _ ?_
  unfold vAt
  have : i.toNat < x.length := by omega
  rw [List.getElem?_eq_getElem this]; rfl
section
variable {P : Program} {w : World} {K : PySem.W.Frag} {mg : Str → Option Value} {base : Heap} {C : Addr}
abbrev sI1 := spF (spD (fun i : Int => [isD (.int i)]) (fun _ => True) fun _ => .bool true)
-- def is_integer value:i
theorem scIsInteger : FnScope ["value"] ["value"] (defScope sIsInteger) := ⟨rfl, rfl, rfl, by decide +kernel, rfl, by decide +kernel, by decide +kernel⟩
theorem ok_isInteger (B : Bl mg) (F : FnAt K mg "is_integer" sIsInteger) : Cl P w K mg base "is_integer" 1 ["value"] sI1 := by
  refine cl_D F scIsInteger (fun p => ⟨isD_mono _, trivial⟩) (fun _ => rfl) (by decide) (fun _ _ _ _ _ _ us hl => match us, hl with | [_], _ => rfl) (fun f cdv A outer s H σ S R E p hr g hs hR => ?_)
  exact gs_ret g (r_eq (r_and (r_isi B.isinstance (g_v g (pv 0) rfl) B.int (by decide +kernel) k_int_int) (fun _ => (r_one (r_not (r_isi B.isinstance (g_v g (pv 0) rfl) B.bool (by decide +kernel) k_int_bool))))) (by rfl)) fun v H' g' r => fin_D g' (fun _ h => h) r hR
abbrev sI2 := spF (spD (fun i : Int => [isD (.int i)]) (fun _ => True) fun i => .bool (decide (0 ≤ i)))

-- def is_number value:i
theorem scIsNumber : FnScope ["value"] ["value"] (defScope sIsNumber) := ⟨rfl, rfl, rfl, by decide +kernel, rfl, by decide +kernel, by decide +kernel⟩
theorem ok_isNumber (B : Bl mg) (F : FnAt K mg "is_number" sIsNumber) (c_is_integer : Cl P w K mg base "is_integer" 1 ["value"] sI1) : Cl P w K mg base "is_number" 2 ["value"] sI2 := by
  refine cl_D F scIsNumber (fun p => ⟨isD_mono _, trivial⟩) (fun _ => rfl) (by decide) (fun _ _ _ _ _ _ us hl => match us, hl with | [_], _ => rfl) (fun f cdv A outer s H σ S R E p hr g hs hR => ?_)
  exact gs_ret g (r_eq (r_and (r_callD c_is_integer (hr.mono (by omega)) (p := _) rfl (ra_D (g_v g (pv 0) rfl) ra_nil) (by walk_at "sd")) (fun _ => (r_one (r_ge (g_v g (pv 0) rfl) r_int)))) (by rfl)) fun v H' g' r => fin_D g' (fun _ h => h) r hR
abbrev sIx := spF (spD (fun p : Int × Int => [isD (.int p.1), isD (.int p.2)]) (fun _ => True) fun p => .bool (decide (0 ≤ p.1) && decide (p.1 < p.2)))

-- def is_index value:i many:i
theorem scIsIndex : FnScope ["value", "many"] ["value", "many"] (defScope sIsIndex) := ⟨rfl, rfl, rfl, by decide +kernel, rfl, by decide +kernel, by decide +kernel⟩
theorem ok_isIndex (B : Bl mg) (F : FnAt K mg "is_index" sIsIndex) (c_is_number : Cl P w K mg base "is_number" 2 ["value"] sI2) : Cl P w K mg base "is_index" 3 ["value", "many"] sIx := by
  refine cl_D F scIsIndex (fun p => ⟨isD_mono _, isD_mono _, trivial⟩) (fun _ => rfl) (by decide) (fun _ _ _ _ _ _ us hl => match us, hl with | [_, _], _ => rfl) (fun f cdv A outer s H σ S R E p hr g hs hR => ?_)
  exact gs_ret g (r_eq (r_and (r_callD c_is_number (hr.mono (by omega)) (p := _) rfl (ra_D (g_v g (pv 0) rfl) ra_nil) (by walk_at "sd")) (fun _ => (r_one (r_lt (g_v g (pv 0) rfl) (g_v g (pv 1) rfl))))) (by rfl)) fun v H' g' r => fin_D g' (fun _ h => h) r hR
abbrev sSq := spF (spD (fun d : PyData => [isD d]) (fun d => (∃ ds, d = .list ds) ∨ ∃ ds, d = .tuple ds) fun _ => .bool true)
-- def is_sequence value:l?
theorem scIsSequence : FnScope ["value"] ["value"] (defScope sIsSequence) := ⟨rfl, rfl, rfl, by decide +kernel, rfl, by decide +kernel, by decide +kernel⟩
theorem ok_isSequence (B : Bl mg) (F : FnAt K mg "is_sequence" sIsSequence) : Cl P w K mg base "is_sequence" 1 ["value"] sSq := by
  refine cl_D F scIsSequence (fun p => ⟨isD_mono _, trivial⟩) (fun _ => rfl) (by decide) (fun _ _ _ _ _ _ us hl => match us, hl with | [_], _ => rfl) (fun f cdv A outer s H σ S R E p hr g hs hR => ?_)
  rcases hs with ⟨ds, rfl⟩ | ⟨ds, rfl⟩
  · exact gs_ret g (r_eq (r_isi2 B.isinstance (g_v g (pv 0) rfl) B.list (by decide +kernel) B.tuple (by decide +kernel) k_lst_2) (by rfl)) fun v H' g' r => fin_D g' (fun _ h => h) r hR

  · exact gs_ret g (r_eq (r_isi2 B.isinstance (g_v g (pv 0) rfl) B.list (by decide +kernel) B.tuple (by decide +kernel) k_tup_2) (by rfl)) fun v H' g' r => fin_D g' (fun _ h => h) r hR
abbrev sNo := spF (spD (fun k : Nat => [isD (.int k)]) (fun k => 1 ≤ k ∧ k ≤ 100) fun k => vec (zer k))
-- def nobody kinds:i
theorem scNobody : FnScope ["kinds"] ["kinds"] (defScope sNobody) := ⟨rfl, rfl, rfl, by decide +kernel, rfl, by decide +kernel, by decide +kernel⟩
theorem ok_nobody (B : Bl mg) (F : FnAt K mg "nobody" sNobody) : Cl P w K mg base "nobody" 1 ["kinds"] sNo := by
  refine cl_D F scNobody (fun p => ⟨isD_mono _, trivial⟩) (fun _ => rfl) (by decide) (fun _ _ _ _ _ _ us hl => match us, hl with | [_], _ => rfl) (fun f cdv A outer s H σ S R E p hr g hs hR => ?_)
  have hs1 : 1 ≤ p ∧ p ≤ 100 := hs
  exact gs_ret g (r_eq (r_repV (r_tupI (ra_I r_int ra_nilI)) (g_v g (pv 0) rfl) (by walk_at "sz")) (by simp [zer])) fun v H' g' r => fin_D g' (fun _ h => h) r hR
abbrev sBt := spF (spD (fun p : Nat × List Int => [isD (.int p.1), isD (vec p.2)]) (fun p => p.2.length = p.1 ∧ p.1 ≤ 100 ∧ (∀ x ∈ p.2, 0 ≤ x) ∧ 0 < p.2.sum) fun _ => .bool true)
-- def is_batch kinds:i value:v
theorem scIsBatch : FnScope ["kinds", "value", "x"] ["kinds", "value"] (defScope sIsBatch) := ⟨rfl, rfl, rfl, by decide +kernel, rfl, by decide +kernel, by decide +kernel⟩
theorem ok_isBatch (B : Bl mg) (F : FnAt K mg "is_batch" sIsBatch) (c_is_number : Cl P w K mg base "is_number" 2 ["value"] sI2) : Cl P w K mg base "is_batch" 3 ["kinds", "value"] sBt := by
  refine cl_D F scIsBatch (fun p => ⟨isD_mono _, isD_mono _, trivial⟩) (fun _ => rfl) (by decide) (fun _ _ _ _ _ _ us hl => match us, hl with | [_, _], _ => rfl) (fun f cdv A outer s H σ S R E p hr g hs hR => ?_)
  obtain ⟨k, b⟩ := p
  obtain ⟨h1, h2, h3, h4⟩ := hs
  have h1' : b.length = k := h1
  refine gs_if1 g (t_eq (b' := false) (QT.pt (q_or (t_not (t_val (r_isi B.isinstance (g_v g (pv 1) rfl) B.tuple (by decide +kernel) k_tup_tup))) (fun _ => (q_or (t_neI (r_lenT B.len (g_v g (pv 1) rfl)) (g_v g (pv 0) rfl)) (fun _ => (q_one_or (t_not (t_val (r_all rfl B.all (r_lcA (own := [("x", 2)]) .bool rfl scIsBatch.nd (w_tup (g_v g (pv 1) rfl)) (blkOk_by (N := ["kinds", "value", "x"]) (sc := defScope sIsBatch) (by decide +kernel)) (fun _ _ _ _ _ => pg_name (i := 2) scIsBatch.nd rfl (by first | exact Or.inl rfl | exact Or.inr rfl)) (by walk_at "sz") (it_name g (j := 2) (by decide) rfl (fun _ => isD_mono _) (fun a1 ha1 _ _ _ g1 => ⟨b_nil, fun hp1 _ _ _ _ _ => (r_callD c_is_number (hr.mono (by omega)) (p := _) rfl (ra_D (g_v g1 (pv 2) rfl) ra_nil) (by walk_at "sd"))⟩)))))))))))) ?_) (fun h => nomatch h) fun _ H' g1 => ?_
  · simpa [h1'] using h3
  exact gs_ret g1 (r_eq (r_gt (r_sumT rfl B.sum (g_v g1 (pv 1) rfl)) r_int) (by simpa using h4)) fun v H' g' r => fin_D g' (fun _ h => h) r hR
end
end N34

set_option Elab.async false
set_option linter.all false
set_option maxRecDepth 100000
set_option maxHeartbeats 1000000
/-! crowds, sums -/
namespace N34
open PySem PySem.Spec PyProof.Rows L2
theorem zipIdx_lt {α : Type} {xs : List α} {q : α × Nat} (h : q ∈ xs.zipIdx) : q.2 < xs.length := by
  obtain ⟨j, hj⟩ := List.getElem?_of_mem h
  rw [List.getElem?_zipIdx] at hj
  cases c : xs[j]? with
  | none => rw [c] at hj; cases hj
  | some a =>
    rw [c] at hj
    have e : (a, 0 + j) = q := Option.some.inj hj
    rw [← e]
    have := (List.getElem?_eq_some_iff.mp c).1
    show 0 + j < _
    omega
theorem zipIdx_mem {α : Type} {xs : List α} {q : α × Nat} (h : q ∈ xs.zipIdx) : q.1 ∈ xs ∧ xs[q.2]? = some q.1 := by
  obtain ⟨j, hj⟩ := List.getElem?_of_mem h
  rw [List.getElem?_zipIdx] at hj
  cases c : xs[j]? with
  | none => rw [c] at hj; cases hj
  | some a =>
    rw [c] at hj
    have e : (a, 0 + j) = q := Option.some.inj hj
    rw [← e]
    refine ⟨List.mem_of_getElem? c, ?_⟩
    show xs[0 + j]? = _
    rw [Nat.zero_add]; exact c
theorem zipIdx_zip {γ : Type} (F : Int → Int → γ) {a b : List Int} (h : a.length ≤ b.length) : (a.zipIdx.map fun q => F q.1 (vAt b (q.2 : Nat))) = (a.zip b).map fun q => F q.1 q.2 := by
  refine List.ext_getElem (by simp; omega) fun i h1 h2 => ?_
  simp at h1 h2 ⊢
  congr 1
  unfold vAt
  have h3 : i < b.length := by omega
  simp [h3]
local macro_rules | `(tactic| walk_at "sz") => `(tactic| first | assumption | omega | (simp only [List.length_zip, List.length_map, List.length_range, List.length_zipIdx]; omega))
local macro_rules | `(tactic| walk_at "sd") => `(tactic| first | trivial | assumption)
local macro_rules | `(tactic| walk_at "ix") => `(tactic| exact atI_v (by first | omega | (have hz := zipIdx_lt (by assumption); omega)))
section
variable {P : Program} {w : World} {K : PySem.W.Frag} {mg : Str → Option Value} {base : Heap} {C : Addr}
abbrev vv2 (p : List Int × List Int) : List RV := [isD (vec p.1), isD (vec p.2)]
abbrev lWi := spF (spD vv2 (fun p => p.1.length ≤ 100 ∧ p.1.length = p.2.length) fun p => .bool (leB p.1 p.2))
abbrev lMo := spF (spD vv2 (fun p => p.1.length ≤ 100 ∧ p.1.length = p.2.length) fun p => vec (addL p.1 p.2))
abbrev lLe := spF (spD vv2 (fun p => p.1.length ≤ 100 ∧ p.1.length = p.2.length) fun p => vec (subL p.1 p.2))
-- def _law_within _law_one:v _law_other:v
theorem scLawWithin : FnScope ["_law_one", "_law_other", "_law_at", "_law_x"] ["_law_one", "_law_other"] (defScope sLawWithin) := ⟨rfl, rfl, rfl, by decide +kernel, rfl, by decide +kernel, by decide +kernel⟩
theorem ok_lawWithin (B : Bl mg) (F : FnAt K mg "_law_within" sLawWithin) : Cl P w K mg base "_law_within" 1 ["_law_one", "_law_other"] lWi := by
  refine cl_D F scLawWithin (fun p => ⟨isD_mono _, isD_mono _, trivial⟩) (fun _ => rfl) (by decide) (fun _ _ _ _ _ _ us hl => match us, hl with | [_, _], _ => rfl) (fun f cdv A outer s H σ S R E p hr g hs hR => ?_)
  obtain ⟨h1, h2⟩ : p.1.length ≤ 100 ∧ p.1.length = p.2.length := hs
  exact gs_ret g (r_eq (r_all rfl B.all (r_lcA (own := [("_law_at", 2), ("_law_x", 3)]) .bool rfl scLawWithin.nd (w_enumT B.enumerate (g_v g (pv 0) rfl)) (blkOk_by (N := ["_law_one", "_law_other", "_law_at", "_law_x"]) (sc := defScope sLawWithin) (by decide +kernel)) (fun _ _ _ _ _ => pg_tup rfl (pgs_cons (pg_name (i := 2) scLawWithin.nd rfl (by first | exact Or.inl rfl | exact Or.inr rfl)) (pgs_cons (pg_name (i := 3) scLawWithin.nd rfl (by first | exact Or.inl rfl | exact Or.inr rfl)) pgs_nil))) (by walk_at "sz") (it_pair g (i := 2) (j := 3) (by decide) (by decide) rfl rfl (fun _ => isD_mono _) (fun _ => isD_mono _) (fun a1 ha1 _ _ _ g1 => ⟨b_nil, fun hp1 _ _ _ _ _ => (r_le (g_v g1 (pv 3) rfl) (r_ixT (g_v g1 (pv 1) rfl) (g_v g1 (pv 2) rfl) (by walk_at "ix")))⟩)))) (by rw [zipIdx_zip (fun x y => decide (x ≤ y)) (Nat.le_of_eq h2)]; first | (unfold leB; rfl) | (unfold addL; rfl) | (unfold subL; rfl))) fun v H' g' r => fin_D g' (fun _ h => h) r hR
-- def _law_more _law_one:v _law_other:v
theorem scLawMore : FnScope ["_law_one", "_law_other", "_law_at", "_law_x"] ["_law_one", "_law_other"] (defScope sLawMore) := ⟨rfl, rfl, rfl, by decide +kernel, rfl, by decide +kernel, by decide +kernel⟩
theorem ok_lawMore (B : Bl mg) (F : FnAt K mg "_law_more" sLawMore) : Cl P w K mg base "_law_more" 1 ["_law_one", "_law_other"] lMo := by
  refine cl_D F scLawMore (fun p => ⟨isD_mono _, isD_mono _, trivial⟩) (fun _ => rfl) (by decide) (fun _ _ _ _ _ _ us hl => match us, hl with | [_, _], _ => rfl) (fun f cdv A outer s H σ S R E p hr g hs hR => ?_)
  obtain ⟨h1, h2⟩ : p.1.length ≤ 100 ∧ p.1.length = p.2.length := hs
  exact gs_ret g (r_eq (r_tupleL B.tuple (r_lcA (own := [("_law_at", 2), ("_law_x", 3)]) .int rfl scLawMore.nd (w_enumT B.enumerate (g_v g (pv 0) rfl)) (blkOk_by (N := ["_law_one", "_law_other", "_law_at", "_law_x"]) (sc := defScope sLawMore) (by decide +kernel)) (fun _ _ _ _ _ => pg_tup rfl (pgs_cons (pg_name (i := 2) scLawMore.nd rfl (by first | exact Or.inl rfl | exact Or.inr rfl)) (pgs_cons (pg_name (i := 3) scLawMore.nd rfl (by first | exact Or.inl rfl | exact Or.inr rfl)) pgs_nil))) (by walk_at "sz") (it_pair g (i := 2) (j := 3) (by decide) (by decide) rfl rfl (fun _ => isD_mono _) (fun _ => isD_mono _) (fun a2 ha2 _ _ _ g2 => ⟨b_nil, fun hp2 _ _ _ _ _ => (r_add (g_v g2 (pv 3) rfl) (r_ixT (g_v g2 (pv 1) rfl) (g_v g2 (pv 2) rfl) (by walk_at "ix")))⟩)))) (by rw [zipIdx_zip (fun x y => x + y) (Nat.le_of_eq h2)]; first | (unfold leB; rfl) | (unfold addL; rfl) | (unfold subL; rfl))) fun v H' g' r => fin_D g' (fun _ h => h) r hR
-- def _law_less _law_one:v _law_other:v
theorem scLawLess : FnScope ["_law_one", "_law_other", "_law_at", "_law_x"] ["_law_one", "_law_other"] (defScope sLawLess) := ⟨rfl, rfl, rfl, by decide +kernel, rfl, by decide +kernel, by decide +kernel⟩
theorem ok_lawLess (B : Bl mg) (F : FnAt K mg "_law_less" sLawLess) : Cl P w K mg base "_law_less" 1 ["_law_one", "_law_other"] lLe := by
  refine cl_D F scLawLess (fun p => ⟨isD_mono _, isD_mono _, trivial⟩) (fun _ => rfl) (by decide) (fun _ _ _ _ _ _ us hl => match us, hl with | [_, _], _ => rfl) (fun f cdv A outer s H σ S R E p hr g hs hR => ?_)
  obtain ⟨h1, h2⟩ : p.1.length ≤ 100 ∧ p.1.length = p.2.length := hs
  exact gs_ret g (r_eq (r_tupleL B.tuple (r_lcA (own := [("_law_at", 2), ("_law_x", 3)]) .int rfl scLawLess.nd (w_enumT B.enumerate (g_v g (pv 0) rfl)) (blkOk_by (N := ["_law_one", "_law_other", "_law_at", "_law_x"]) (sc := defScope sLawLess) (by decide +kernel)) (fun _ _ _ _ _ => pg_tup rfl (pgs_cons (pg_name (i := 2) scLawLess.nd rfl (by first | exact Or.inl rfl | exact Or.inr rfl)) (pgs_cons (pg_name (i := 3) scLawLess.nd rfl (by first | exact Or.inl rfl | exact Or.inr rfl)) pgs_nil))) (by walk_at "sz") (it_pair g (i := 2) (j := 3) (by decide) (by decide) rfl rfl (fun _ => isD_mono _) (fun _ => isD_mono _) (fun a3 ha3 _ _ _ g3 => ⟨b_nil, fun hp3 _ _ _ _ _ => (r_sub (g_v g3 (pv 3) rfl) (r_ixT (g_v g3 (pv 1) rfl) (g_v g3 (pv 2) rfl) (by walk_at "ix")))⟩)))) (by rw [zipIdx_zip (fun x y => x - y) (Nat.le_of_eq h2)]; first | (unfold leB; rfl) | (unfold addL; rfl) | (unfold subL; rfl))) fun v H' g' r => fin_D g' (fun _ h => h) r hR
end
end N34

set_option Elab.async false
set_option linter.all false
set_option maxRecDepth 100000
set_option maxHeartbeats 1000000
/-! sums of batches, steps -/
namespace N34
open PySem PySem.Spec PyProof.Rows L2
theorem zer_def {k : Nat} : zer k = List.replicate k 0 := by unfold zer; rfl
theorem sumOf_nil {k : Nat} {B : List (List Int)} : sumOf k B [] = zer k := by unfold sumOf; rfl
theorem sumOf_snoc {k : Nat} {B : List (List Int)} {pre : List Int} {x : Int} : sumOf k B (pre ++ [x]) = addL (sumOf k B pre) (bAt B x) := by
  unfold sumOf; rw [List.foldl_append]; rfl
theorem sumOf_len {k : Nat} {B : List (List Int)} (hB : ∀ b ∈ B, b.length = k) : ∀ {idx : List Int}, (∀ i ∈ idx, 0 ≤ i ∧ i < B.length) → (sumOf k B idx).length = k := by
  intro idx
  have gen : ∀ (idx acc : List Int), acc.length = k → (∀ i ∈ idx, 0 ≤ i ∧ i < B.length) → (idx.foldl (fun acc i => addL acc (bAt B i)) acc).length = k := by
    intro idx
    induction idx with
    | nil => intro acc h _; exact h
    | cons i idx ih =>
      intro acc h hi
      refine ih _ ?_ fun j hj => hi j (List.mem_cons_of_mem _ hj)
      rw [addL_len, h, hB _ (bAt_mem (hi i List.mem_cons_self)), Nat.min_self]
  exact fun h => by unfold sumOf; exact gen idx (zer k) repl_len h
theorem vAt_mem {x : List Int} {i : Int} (h : 0 ≤ i ∧ i < x.length) : vAt x i ∈ x := by
  unfold vAt
  have : i.toNat < x.length := by omega
  rw [List.getElem?_eq_getElem this]
  exact List.getElem_mem this
theorem kinds1_lt {x : List Int} {i : Int} (h : i ∈ kinds1 x) : 0 ≤ i ∧ i < x.length := by
  unfold kinds1 at h
  obtain ⟨q, hq, rfl⟩ := List.mem_map.mp h
  have := zipIdx_lt (List.mem_filter.mp hq).1
  omega
local macro_rules | `(tactic| walk_at "sz") => `(tactic| first | assumption | omega | (simp only [List.length_zip, List.length_map, List.length_range, List.length_zipIdx]; omega) | exact ⟨by omega, by omega⟩)
local macro_rules | `(tactic| walk_at "leg") => `(tactic| repeat (first | exact LeG.nil | apply LeG.keep | apply LeG.drop))
local macro_rules | `(tactic| walk_at "sd") => `(tactic| first | trivial | assumption | omega | (refine ⟨?_, ?_⟩ <;> (try dsimp only) <;> omega) | (simp only [subL_len]; omega))
local macro_rules | `(tactic| walk_at "ix") => `(tactic| first | exact atI_b (by first | assumption | omega) | exact atI_v (by first | omega | (have hz := zipIdx_lt (by assumption); omega)))
section
variable {P : Program} {w : World} {K : PySem.W.Frag} {mg : Str → Option Value} {base : Heap} {C : Addr}
/-- book, indexes of batches -/
abbrev bi (C : Addr) (p : Nat × List (List Int) × List Int) : List RV := [isBk C p.1 p.2.1, isD (vec p.2.2)]
abbrev biS (p : Nat × List (List Int) × List Int) : Prop := VB p.1 p.2.1 ∧ (∀ i ∈ p.2.2, 0 ≤ i ∧ i < p.2.1.length) ∧ p.2.2.length ≤ 100
abbrev sSm (C : Addr) := spF (spD (bi C) biS fun p => vec (sumOf p.1 p.2.1 p.2.2))




-- def sum_of book:B indexes:v
theorem scSumOf : FnScope ["book", "indexes", "found", "at"] ["book", "indexes"] (defScope sSumOf) := ⟨rfl, rfl, rfl, by decide +kernel, rfl, by decide +kernel, by decide +kernel⟩
theorem ok_sumOf (B : Bl mg) (T : BkF K C) (F : FnAt K mg "sum_of" sSumOf) (c_nobody : Cl P w K mg base "nobody" 1 ["kinds"] sNo) (c_more : Cl P w K mg base "more" 1 ["one", "other"] sMo) : Cl P w K mg base "sum_of" 2 ["book", "indexes"] (sSm C) := by
  refine cl_D F scSumOf (fun p => ⟨isBk_mono _ _ _, isD_mono _, trivial⟩) (fun _ => rfl) (by decide) (fun _ _ _ _ _ _ us hl => match us, hl with | [_, _], _ => rfl) (fun f cdv A outer s H σ S R E p hr g hs hR => ?_)
  obtain ⟨vb, h2, h3⟩ : biS p := hs
  have h4 := vb.pos
  have h5 := vb.le
  refine gs_set g (i := 2) scSumOf.nd (r_callD c_nobody (hr.mono (by omega)) (p := _) rfl (ra_D (g_kinds T (g_v g (pv 0) rfl)) ra_nil) (by walk_at "sd")) (isD_mono _) fun σ1 H1 g1 => ?_
  refine gs_for g1 PassesOwn.never rfl (w_tup (g_v g1 (pv 1) rfl)) (pg_name (i := 3) scSumOf.nd rfl (by first | exact Or.inl rfl | exact Or.inr rfl)) (fun pre => [some (isBk C p.1 p.2.1), some (isD (vec p.2.2)), some (isD (vec (sumOf p.1 p.2.1 pre))), none]) (fun _ => []) (fun H' g' => ?_) (fun B' pre x post hx σ2 H2 v g2 hv => ?_) (fun σ2 H2 g2 => ?_)
  · simp only [sumOf_nil]
    exact g'.le (by walk_at "leg")
  · have hx' : 0 ≤ x ∧ x < p.2.1.length := h2 x (by rw [hx]; simp)
    have hl : (sumOf p.1 p.2.1 pre).length ≤ 100 := by
      rw [sumOf_len vb.len fun i hi => h2 i (by rw [hx]; simp [hi])]; exact h5
    refine gst_name g2 rfl (isD_mono _) hv fun σ3 g3 => ?_
    refine gs_set g3 (i := 2) scSumOf.nd (r_callD c_more (hr.mono (by omega)) (p := (_, _)) rfl (ra_D (g_v g3 (pv 2) rfl) (ra_D (r_ixT (g_batches T (g_v g3 (pv 0) rfl)) (g_v g3 (pv 3) rfl) (by walk_at "ix")) ra_nil)) (by walk_at "sd")) (isD_mono _) fun σ4 H4 g4 => sw_nil ?_
    simp only [sumOf_snoc]
    exact g4.le (by walk_at "leg")
  · exact gs_ret g2 (g_v g2 (pv 2) rfl) fun v H' g' r => fin_D g' (fun _ h => h) r hR
/-- batches (a list), indexes -/
abbrev lSi (p : Nat × List (List Int) × List Int) : List RV := [isD (.int p.1), isD (lvec p.2.1), isD (vec p.2.2)]
abbrev lSm := spF (spD lSi biS fun p => vec (sumOf p.1 p.2.1 p.2.2))



-- def _law_sum _law_kinds:i _law_batches:lv _law_row:v
theorem scLawSum : FnScope ["_law_kinds", "_law_batches", "_law_row", "_law_found", "_law_at"] ["_law_kinds", "_law_batches", "_law_row"] (defScope sLawSum) := ⟨rfl, rfl, rfl, by decide +kernel, rfl, by decide +kernel, by decide +kernel⟩
theorem ok_lawSum (B : Bl mg) (F : FnAt K mg "_law_sum" sLawSum) (c__law_more : Cl P w K mg base "_law_more" 1 ["_law_one", "_law_other"] lMo) : Cl P w K mg base "_law_sum" 2 ["_law_kinds", "_law_batches", "_law_row"] lSm := by
  refine cl_D F scLawSum (fun p => ⟨isD_mono _, isD_mono _, isD_mono _, trivial⟩) (fun _ => rfl) (by decide) (fun _ _ _ _ _ _ us hl => match us, hl with | [_, _, _], _ => rfl) (fun f cdv A outer s H σ S R E p hr g hs hR => ?_)
  obtain ⟨vb, h2, h3⟩ : biS p := hs
  have h4 := vb.pos
  have h5 := vb.le
  refine gs_set g (i := 3) scLawSum.nd (r_repV (r_tupI (ra_I r_int ra_nilI)) (g_v g (pv 0) rfl) (by walk_at "sz")) (isD_mono _) fun σ1 H1 g1 => ?_
  refine gs_for g1 PassesOwn.never rfl (w_tup (g_v g1 (pv 2) rfl)) (pg_name (i := 4) scLawSum.nd rfl (by first | exact Or.inl rfl | exact Or.inr rfl)) (fun pre => [some (isD (.int p.1)), some (isD (lvec p.2.1)), some (isD (vec p.2.2)), some (isD (vec (sumOf p.1 p.2.1 pre))), none]) (fun _ => []) (fun H' g' => ?_) (fun B' pre x post hx σ2 H2 v g2 hv => ?_) (fun σ2 H2 g2 => ?_)
  · simp only [Int.toNat_natCast, ← zer_def] at g'
    simp only [sumOf_nil]
    exact g'.le (by walk_at "leg")
  · have hx' : 0 ≤ x ∧ x < p.2.1.length := h2 x (by rw [hx]; simp)
    have hl : (sumOf p.1 p.2.1 pre).length = p.1 := sumOf_len vb.len fun i hi => h2 i (by rw [hx]; simp [hi])
    have hb := vb.len _ (bAt_mem hx')
    refine gst_name g2 rfl (isD_mono _) hv fun σ3 g3 => ?_
    refine gs_set g3 (i := 3) scLawSum.nd (r_callD c__law_more (hr.mono (by omega)) (p := (_, _)) rfl (ra_D (g_v g3 (pv 3) rfl) (ra_D (r_ixL (g_v g3 (pv 1) rfl) (g_v g3 (pv 4) rfl) (by walk_at "ix")) ra_nil)) (by walk_at "sd")) (isD_mono _) fun σ4 H4 g4 => sw_nil ?_
    simp only [sumOf_snoc]
    exact g4.le (by walk_at "leg")
  · exact gs_ret g2 (g_v g2 (pv 3) rfl) fun v H' g' r => fin_D g' (fun _ h => h) r hR
abbrev nd4 (C : Addr) (p : Nat × List (List Int) × List Int × List Int × List Int) : List RV := [isBk C p.1 p.2.1, isD (vec p.2.2.1), isD (vec p.2.2.2.1), isD (vec p.2.2.2.2)]
abbrev sNd (C : Addr) := spF (spD (nd4 C) (fun p => VB p.1 p.2.1 ∧ p.2.2.1.length ≤ 100 ∧ p.2.2.2.2.length ≤ 100 ∧ p.2.2.2.1.length ≤ 100 ∧ ∀ i ∈ p.2.2.2.1, 0 ≤ i ∧ i < p.2.1.length) fun p => .bool (needless p.2.1 p.2.2.1 p.2.2.2.1 p.2.2.2.2))
-- def is_needless book:B wanted:v cover:v whole:v
theorem scIsNeedless : FnScope ["book", "wanted", "cover", "whole", "at"] ["book", "wanted", "cover", "whole"] (defScope sIsNeedless) := ⟨rfl, rfl, rfl, by decide +kernel, rfl, by decide +kernel, by decide +kernel⟩
theorem ok_isNeedless (B : Bl mg) (T : BkF K C) (F : FnAt K mg "is_needless" sIsNeedless) (c_less : Cl P w K mg base "less" 1 ["one", "other"] sLe) (c_within : Cl P w K mg base "within" 1 ["one", "other"] sWith) : Cl P w K mg base "is_needless" 2 ["book", "wanted", "cover", "whole"] (sNd C) := by
  refine cl_D F scIsNeedless (fun p => ⟨isBk_mono _ _ _, isD_mono _, isD_mono _, isD_mono _, trivial⟩) (fun _ => rfl) (by decide) (fun _ _ _ _ _ _ us hl => match us, hl with | [_, _, _, _], _ => rfl) (fun f cdv A outer s H σ S R E p hr g hs hR => ?_)
  obtain ⟨vb, h2, h3, h4, hidx⟩ := hs

  exact gs_ret g (r_eq (r_any rfl B.any (r_lcA (own := [("at", 4)]) .bool rfl scIsNeedless.nd (w_tup (g_v g (pv 2) rfl)) (blkOk_by (N := ["book", "wanted", "cover", "whole", "at"]) (sc := defScope sIsNeedless) (by decide +kernel)) (fun _ _ _ _ _ => pg_name (i := 4) scIsNeedless.nd rfl (by first | exact Or.inl rfl | exact Or.inr rfl)) (by walk_at "sz") (it_name g (j := 4) (by decide) rfl (fun _ => isD_mono _) (fun a1 ha1 _ _ _ g1 => ⟨b_nil, fun hp1 _ _ _ _ _ => (r_callD c_within (hr.mono (by omega)) (p := (_, _)) rfl (ra_D (g_v g1 (pv 1) rfl) (ra_D (r_callD c_less (hr.mono (by omega)) (p := (_, _)) rfl (ra_D (g_v g1 (pv 3) rfl) (ra_D (r_ixT (g_batches T (g_v g1 (pv 0) rfl)) (g_v g1 (pv 4) rfl) (by exact atI_b (hidx _ ‹_›))) ra_nil)) (by walk_at "sd")) ra_nil)) (by walk_at "sd"))⟩)))) (by unfold needless; rfl)) fun v H' g' r => fin_D g' (fun _ h => h) r hR

abbrev bx (C : Addr) (p : Nat × List (List Int) × List Int) : List RV := [isBk C p.1 p.2.1, isD (vec p.2.2)]
abbrev bxS (p : Nat × List (List Int) × List Int) : Prop := VB p.1 p.2.1 ∧ p.2.2.length = p.1
abbrev sBw (C : Addr) := spF (spD (bx C) bxS fun p => lint (bwf p.2.1 p.2.2))
-- def batches_with_first book:B crowd:v
theorem scBatchesWithFirst : FnScope ["book", "crowd", "kinds", "kind", "many", "at", "batch"] ["book", "crowd"] (defScope sBatchesWithFirst) := ⟨rfl, rfl, rfl, by decide +kernel, rfl, by decide +kernel, by decide +kernel⟩
theorem ok_bwf (B : Bl mg) (T : BkF K C) (F : FnAt K mg "batches_with_first" sBatchesWithFirst) (c_within : Cl P w K mg base "within" 1 ["one", "other"] sWith) : Cl P w K mg base "batches_with_first" 2 ["book", "crowd"] (sBw C) := by
  refine cl_D F scBatchesWithFirst (fun p => ⟨isBk_mono _ _ _, isD_mono _, trivial⟩) (fun _ => rfl) (by decide) (fun _ _ _ _ _ _ us hl => match us, hl with | [_, _], _ => rfl) (fun f cdv A outer s H σ S R E p hr g hs hR => ?_)
  obtain ⟨vb, h2⟩ : bxS p := hs
  have h5 := vb.le
  have h6 := vb.few
  refine gs_set g (i := 2) scBatchesWithFirst.nd (r_eq (d' := lint (kinds1 p.2.2)) (r_lc (own := [("kind", 3), ("many", 4)]) .int rfl scBatchesWithFirst.nd (w_enumT B.enumerate (g_v g (pv 1) rfl)) (blkOk_by (N := ["book", "crowd", "kinds", "kind", "many", "at", "batch"]) (sc := defScope sBatchesWithFirst) (by decide +kernel)) (fun _ _ _ _ _ => pg_tup rfl (pgs_cons (pg_name (i := 3) scBatchesWithFirst.nd rfl (by first | exact Or.inl rfl | exact Or.inr rfl)) (pgs_cons (pg_name (i := 4) scBatchesWithFirst.nd rfl (by first | exact Or.inl rfl | exact Or.inr rfl)) pgs_nil))) (by walk_at "sz") (it_pair g (i := 3) (j := 4) (by decide) (by decide) rfl rfl (fun _ => isD_mono _) (fun _ => isD_mono _) (fun a2 ha2 _ _ _ g2 => ⟨b_one fun _ _ _ _ _ => (t_gt (g_v g2 (pv 4) rfl) r_int), fun hp2 _ _ _ _ _ => (g_v g2 (pv 3) rfl)⟩))) (by unfold kinds1; rfl)) (isD_mono _) fun σ1 H1 g1 => ?_
  refine gs_if1 g1 (t_eqI (r_lenL B.len (g_v g1 (pv 2) rfl)) r_int) (fun h H2 g2 => gs_ret g2 (r_eq (r_lst (ds := []) ra_nil) ?_) fun v H' g' r => fin_D g' (fun _ h => h) r hR) (fun h H2 g2 => ?_)
  · have h' : (kinds1 p.2.2).length = 0 := by simpa using h
    unfold bwf; rw [if_pos h']; rfl
  have h' : ¬ (kinds1 p.2.2).length = 0 := by simpa using h
  have hk0 := kinds1_lt (vAt_mem (x := kinds1 p.2.2) (i := 0) ⟨Int.le_refl _, by omega⟩)


  exact gs_ret g2 (r_eq (r_lc (own := [("at", 5), ("batch", 6)]) .int rfl scBatchesWithFirst.nd (w_enumT B.enumerate (g_batches T (g_v g2 (pv 0) rfl))) (blkOk_by (N := ["book", "crowd", "kinds", "kind", "many", "at", "batch"]) (sc := defScope sBatchesWithFirst) (by decide +kernel)) (fun _ _ _ _ _ => pg_tup rfl (pgs_cons (pg_name (i := 5) scBatchesWithFirst.nd rfl (by first | exact Or.inl rfl | exact Or.inr rfl)) (pgs_cons (pg_name (i := 6) scBatchesWithFirst.nd rfl (by first | exact Or.inl rfl | exact Or.inr rfl)) pgs_nil))) (by walk_at "sz") (it_pair g2 (i := 5) (j := 6) (by decide) (by decide) rfl rfl (fun _ => isD_mono _) (fun _ => isD_mono _) (fun a3 ha3 _ _ _ g3 => ⟨b_one fun _ _ _ _ _ => (QT.pt (q_and (t_gt (r_ixT (g_v g3 (pv 6) rfl) (r_ixL (g_v g3 (pv 2) rfl) r_int (by first | exact atI_v ⟨Int.le_refl _, by simp; omega⟩ | exact atI_v (by have hz := vb.len _ (zipIdx_mem ‹_›).1; omega))) (by first | exact atI_v ⟨Int.le_refl _, by simp; omega⟩ | exact atI_v (by have hz := vb.len _ (zipIdx_mem ‹_›).1; omega))) r_int) (fun _ => (q_one_and (t_val (r_callD c_within (hr.mono (by omega)) (p := (_, _)) rfl (ra_D (g_v g3 (pv 6) rfl) (ra_D (g_v g3 (pv 1) rfl) ra_nil)) (by exact Nat.le_trans (Nat.le_of_eq (vb.len _ (zipIdx_mem ‹_›).1)) vb.le))))))), fun hp3 _ _ _ _ _ => (g_v g3 (pv 5) rfl)⟩))) (by unfold bwf; rw [if_neg h'])) fun v H' g' r => fin_D g' (fun _ h => h) r hR


end
end N34

set_option Elab.async false
set_option linter.all false
set_option maxRecDepth 100000
set_option maxHeartbeats 1000000
/-! steps, checked crowds, crowds of a size -/
namespace N34
open PySem PySem.Spec PyProof.Rows L2
local macro_rules | `(tactic| walk_at "sz") => `(tactic| first | assumption | omega | (simp only [List.length_zip, List.length_map, List.length_range, List.length_zipIdx]; omega) | exact ⟨by omega, by omega⟩)
local macro_rules | `(tactic| walk_at "leg") => `(tactic| repeat (first | exact LeG.nil | apply LeG.keep | apply LeG.drop))
local macro_rules | `(tactic| walk_at "sd") => `(tactic| first | trivial | assumption | omega)
local macro_rules | `(tactic| walk_at "ix") => `(tactic| first | exact atI_b (by first | assumption | omega) | exact atI_v (by first | omega | (have hz := zipIdx_lt (by assumption); omega)))
abbrev prD (p : Int × List Int) : PyData := .tuple [.int p.1, vec p.2]
abbrev prV (p : List Int × List Int) : PyData := .tuple [vec p.1, vec p.2]
section
variable {P : Program} {w : World} {K : PySem.W.Frag} {mg : Str → Option Value} {base : Heap} {C : Addr}
abbrev sSt (C : Addr) := spF (spD (bx C) bxS fun p => .list ((stepsM p.2.1 p.2.2).map prD))


-- def steps book:B crowd:v
theorem scSteps : FnScope ["book", "crowd", "at", "batch"] ["book", "crowd"] (defScope sSteps) := ⟨rfl, rfl, rfl, by decide +kernel, rfl, by decide +kernel, by decide +kernel⟩
theorem ok_steps (B : Bl mg) (T : BkF K C) (F : FnAt K mg "steps" sSteps) (c_less : Cl P w K mg base "less" 1 ["one", "other"] sLe) (c_within : Cl P w K mg base "within" 1 ["one", "other"] sWith) : Cl P w K mg base "steps" 2 ["book", "crowd"] (sSt C) := by
  refine cl_D F scSteps (fun p => ⟨isBk_mono _ _ _, isD_mono _, trivial⟩) (fun _ => rfl) (by decide) (fun _ _ _ _ _ _ us hl => match us, hl with | [_, _], _ => rfl) (fun f cdv A outer s H σ S R E p hr g hs hR => ?_)
  obtain ⟨vb, h2⟩ : bxS p := hs
  have h5 := vb.le
  have h6 := vb.few

  exact gs_ret g (r_eq (r_lc (f := fun _ => (_, _)) (own := [("at", 2), ("batch", 3)]) prD rfl scSteps.nd (w_enumT B.enumerate (g_batches T (g_v g (pv 0) rfl))) (blkOk_by (N := ["book", "crowd", "at", "batch"]) (sc := defScope sSteps) (by decide +kernel)) (fun _ _ _ _ _ => pg_tup rfl (pgs_cons (pg_name (i := 2) scSteps.nd rfl (by first | exact Or.inl rfl | exact Or.inr rfl)) (pgs_cons (pg_name (i := 3) scSteps.nd rfl (by first | exact Or.inl rfl | exact Or.inr rfl)) pgs_nil))) (by walk_at "sz") (it_pair g (i := 2) (j := 3) (by decide) (by decide) rfl rfl (fun _ => isD_mono _) (fun _ => isD_mono _) (fun a1 ha1 _ _ _ g1 => ⟨b_one fun _ _ _ _ _ => (t_val (r_callD c_within (hr.mono (by omega)) (p := (_, _)) rfl (ra_D (g_v g1 (pv 3) rfl) (ra_D (g_v g1 (pv 1) rfl) ra_nil)) (by first | exact Nat.le_trans (Nat.le_of_eq (vb.len _ (zipIdx_mem ‹_›).1)) vb.le | exact Nat.le_trans (Nat.le_of_eq h2) vb.le))), fun hp1 _ _ _ _ _ => (r_tup (ra_D (g_v g1 (pv 2) rfl) (ra_D (r_callD c_less (hr.mono (by omega)) (p := (_, _)) rfl (ra_D (g_v g1 (pv 1) rfl) (ra_D (g_v g1 (pv 3) rfl) ra_nil)) (by first | exact Nat.le_trans (Nat.le_of_eq (vb.len _ (zipIdx_mem ‹_›).1)) vb.le | exact Nat.le_trans (Nat.le_of_eq h2) vb.le)) ra_nil)))⟩))) (by unfold stepsM; rfl)) fun v H' g' r => fin_D g' (fun _ h => h) r hR

abbrev sCc (C : Addr) := spF (spD (bx C) (fun p => VB p.1 p.2.1 ∧ p.2.2.length = p.1 ∧ ∀ i ∈ p.2.2, 0 ≤ i) fun p => vec p.2.2)


-- def checked_crowd book:B value:v
theorem scCheckedCrowd : FnScope ["book", "value", "at", "x"] ["book", "value"] (defScope sCheckedCrowd) := ⟨rfl, rfl, rfl, by decide +kernel, rfl, by decide +kernel, by decide +kernel⟩
theorem ok_checkedCrowd (B : Bl mg) (T : BkF K C) (F : FnAt K mg "checked_crowd" sCheckedCrowd) (c_is_number : Cl P w K mg base "is_number" 2 ["value"] sI2) (c_is_sequence : Cl P w K mg base "is_sequence" 1 ["value"] sSq) : Cl P w K mg base "checked_crowd" 3 ["book", "value"] (sCc C) := by
  refine cl_D F scCheckedCrowd (fun p => ⟨isBk_mono _ _ _, isD_mono _, trivial⟩) (fun _ => rfl) (by decide) (fun _ _ _ _ _ _ us hl => match us, hl with | [_, _], _ => rfl) (fun f cdv A outer s H σ S R E p hr g hs hR => ?_)
  obtain ⟨vb, h2, h3⟩ : VB p.1 p.2.1 ∧ p.2.2.length = p.1 ∧ ∀ i ∈ p.2.2, 0 ≤ i := hs
  have h5 := vb.le

  refine gs_if1 g (t_eq (b' := false) (t_not (t_val (r_callD c_is_sequence (hr.mono (by omega)) (p := _) rfl (ra_D (g_v g (pv 1) rfl) ra_nil) (by exact .inr ⟨_, rfl⟩)))) rfl) (fun h => nomatch h) fun _ H1 g1 => ?_

  refine gs_for g1 PassesOwn.never rfl (w_enumT B.enumerate (g_v g1 (pv 1) rfl)) (pg_tup rfl (pgs_cons (pg_name (i := 2) scCheckedCrowd.nd rfl (by first | exact Or.inl rfl | exact Or.inr rfl)) (pgs_cons (pg_name (i := 3) scCheckedCrowd.nd rfl (by first | exact Or.inl rfl | exact Or.inr rfl)) pgs_nil))) (fun pre => [some (isBk C p.1 p.2.1), some (isD (vec p.2.2)), none, none]) (fun _ => []) (fun H' g' => g'.le (by walk_at "leg")) (fun B' pre x post hx σ2 H2 v g2 hv => ?_) (fun σ2 H2 g2 => ?_)
  · refine gst_pair g2 rfl rfl (isD_mono _) (isD_mono _) hv fun σ3 g3 => ?_
    have hx0 : 0 ≤ x.1 := h3 _ (zipIdx_mem (by rw [hx]; simp)).1
    refine gs_if1 g3 (t_eq (b' := false) (t_not (t_val (r_callD c_is_number (hr.mono (by omega)) (p := _) rfl (ra_D (g_v g3 (pv 3) rfl) ra_nil) (by trivial)))) (by simpa using hx0)) (fun h => nomatch h) fun _ H3 g4 => sw_nil ?_
    exact g4.le (by walk_at "leg")
  · refine gs_if1 g2 (t_eq (b' := false) (t_neI (r_lenT B.len (g_v g2 (pv 1) rfl)) (g_kinds T (g_v g2 (pv 0) rfl))) (by simp [h2])) (fun h => nomatch h) fun _ H3 g3 => ?_
    exact gs_ret g3 (r_tupleT B.tuple (g_v g3 (pv 1) rfl)) fun v H' g' r => fin_D g' (fun _ h => h) r hR

end
end N34

set_option Elab.async false
set_option linter.all false
set_option maxRecDepth 100000
set_option maxHeartbeats 1000000
/-! crowds of a size -/
namespace N34
open PySem PySem.Spec PyProof.Rows L2
def crIn (k : Nat) (n : Int) (acc : List (List Int)) (x : Nat) : List (List Int) := acc ++ (crowdsM (k + 1) (n - (x : Nat))).map fun r => ((x : Nat) : Int) :: r
theorem crowds1 {n : Int} : crowdsM 1 n = [[n]] := by unfold crowdsM; rfl
theorem crowdsS {k : Nat} {n : Int} : crowdsM (k + 2) n = (List.range (n + 1).toNat).foldl (crIn k n) [] := by rw [crowdsM]; rfl
theorem cr_snoc {k : Nat} {n : Int} {pre : List Nat} {x : Nat} : (pre ++ [x]).foldl (crIn k n) [] = pre.foldl (crIn k n) [] ++ (crowdsM (k + 1) (n - (x : Nat))).map fun r => ((x : Nat) : Int) :: r := by
  rw [List.foldl_append]; rfl
theorem cr_mem_fold {k : Nat} {n : Int} {r : List Int} : ∀ (pre : List Nat) (acc : List (List Int)), r ∈ pre.foldl (crIn k n) acc ↔ r ∈ acc ∨ ∃ x ∈ pre, ∃ q ∈ crowdsM (k + 1) (n - (x : Nat)), r = ((x : Nat) : Int) :: q
  | [], acc => by simp
  | x :: pre, acc => by
    rw [List.foldl_cons, cr_mem_fold pre]
    unfold crIn
    simp only [List.mem_append, List.mem_map, List.mem_cons]
    constructor
    · rintro ((h | ⟨q, hq, rfl⟩) | ⟨y, hy, q, hq, rfl⟩)
      · exact .inl h
      · exact .inr ⟨x, .inl rfl, q, hq, rfl⟩
      · exact .inr ⟨y, .inr hy, q, hq, rfl⟩
    · rintro (h | ⟨y, rfl | hy, q, hq, rfl⟩)
      · exact .inl (.inl h)
      · exact .inl (.inr ⟨q, hq, rfl⟩)
      · exact .inr ⟨y, hy, q, hq, rfl⟩
/-- the crowds of so many members -/
theorem crowds_mem : ∀ (k : Nat) (n : Int), 0 ≤ n → ∀ r, r ∈ crowdsM (k + 1) n ↔ r.length = k + 1 ∧ (∀ x ∈ r, 0 ≤ x) ∧ r.sum = n
  | 0, n, hn, r => by
    rw [crowds1, List.mem_singleton]
    constructor
    · rintro rfl; simp [hn]
    · rintro ⟨h1, h2, h3⟩
      match r, h1 with
      | [a], _ => simp at h3; rw [h3]
  | k + 1, n, hn, r => by
    rw [crowdsS, cr_mem_fold]
    simp only [List.not_mem_nil, false_or, List.mem_range]
    constructor
    · rintro ⟨x, hx, q, hq, rfl⟩
      obtain ⟨h1, h2, h3⟩ := (crowds_mem k (n - (x : Nat)) (by omega) q).mp hq
      refine ⟨by simp [h1], fun y hy => ?_, by simp [h3]; omega⟩
      rcases List.mem_cons.mp hy with e | hy
      · rw [e]; omega
      · exact h2 y hy
    · rintro ⟨h1, h2, h3⟩
      match r, h1 with
      | a :: q, h1 =>
        have ha := h2 a List.mem_cons_self
        have hs : 0 ≤ q.sum := by
          have : ∀ l : List Int, (∀ x ∈ l, 0 ≤ x) → 0 ≤ l.sum := by
            intro l
            induction l with
            | nil => intro _; simp
            | cons b l ih => intro h; simp; have := ih fun x hx => h x (List.mem_cons_of_mem _ hx); have := h b List.mem_cons_self; omega
          exact this q fun x hx => h2 x (List.mem_cons_of_mem _ hx)
        simp at h3
        refine ⟨a.toNat, by omega, q, (crowds_mem k _ (by omega) q).mpr ⟨by simpa using h1, fun x hx => h2 x (List.mem_cons_of_mem _ hx), by omega⟩, ?_⟩
        rw [Int.toNat_of_nonneg ha]
theorem cr_len_fold {k : Nat} {n : Int} {b : Nat} : ∀ (pre : List Nat) (acc : List (List Int)), (∀ x ∈ pre, (crowdsM (k + 1) (n - (x : Nat))).length ≤ b) → (pre.foldl (crIn k n) acc).length ≤ acc.length + pre.length * b
  | [], acc, _ => by simp
  | x :: pre, acc, h => by
    rw [List.foldl_cons]
    refine Nat.le_trans (cr_len_fold pre _ fun y hy => h y (List.mem_cons_of_mem _ hy)) ?_
    unfold crIn
    rw [List.length_append, List.length_map, List.length_cons, Nat.succ_mul]
    have := h x List.mem_cons_self
    omega
theorem crowds_len : ∀ (k : Nat) (n : Int), 0 ≤ n → n ≤ 8 → (crowdsM (k + 1) n).length ≤ 9 ^ k
  | 0, n, _, _ => by rw [crowds1]; exact Nat.le_refl 1
  | k + 1, n, h1, h2 => by
    rw [crowdsS]
    refine Nat.le_trans (cr_len_fold (b := 9 ^ k) _ _ fun x hx => crowds_len k _ ?_ ?_) ?_
    · have := List.mem_range.mp hx; omega
    · omega
    · rw [List.length_range, List.length_nil, Nat.zero_add, Nat.pow_succ, Nat.mul_comm]
      exact Nat.mul_le_mul (Nat.le_refl _) (by omega)
local macro_rules | `(tactic| walk_at "sz") => `(tactic| first | assumption | omega | (simp only [List.length_zip, List.length_map, List.length_range, List.length_zipIdx]; omega) | exact ⟨by omega, by omega⟩)
local macro_rules | `(tactic| walk_at "leg") => `(tactic| repeat (first | exact LeG.nil | apply LeG.keep | apply LeG.drop))
section
variable {P : Program} {w : World} {K : PySem.W.Frag} {mg : Str → Option Value} {base : Heap} {C : Addr}
abbrev crS (n : Nat) (p : Int × Int) : Prop := 1 ≤ p.1 ∧ p.1 ≤ n ∧ p.1 ≤ 4 ∧ 0 ≤ p.2 ∧ p.2 ≤ 8
abbrev sCr (n : Nat) := spF (spD (fun p : Int × Int => [isD (.int p.1), isD (.int p.2)]) (crS n) fun p => lvec (crowdsM p.1.toNat p.2))

-- def _law_crowds _law_kinds:i _law_size:i
theorem scLawCrowds : FnScope ["_law_kinds", "_law_size", "_law_found", "_law_x", "_law_rest"] ["_law_kinds", "_law_size"] (defScope sLawCrowds) := ⟨rfl, rfl, rfl, by decide +kernel, rfl, by decide +kernel, by decide +kernel⟩
theorem ok_crowds (B : Bl mg) (F : FnAt K mg "_law_crowds" sLawCrowds) : ∀ n, Cl P w K mg base "_law_crowds" (n + 1) ["_law_kinds", "_law_size"] (sCr n)
  | 0 => cl_D F scLawCrowds (fun p => ⟨isD_mono _, isD_mono _, trivial⟩) (fun _ => rfl) (by decide) (fun _ _ _ _ _ _ us hl => match us, hl with | [_, _], _ => rfl) (fun f cdv A outer s H σ S R E p hr g hs hR => by
    obtain ⟨h1, h2, _⟩ : crS 0 p := hs
    omega)
  | n + 1 => by
    have c__law_crowds := ok_crowds B F n
    refine cl_D F scLawCrowds (fun p => ⟨isD_mono _, isD_mono _, trivial⟩) (fun _ => rfl) (by decide) (fun _ _ _ _ _ _ us hl => match us, hl with | [_, _], _ => rfl) (fun f cdv A outer s H σ S R E p hr g hs hR => ?_)
    obtain ⟨h1, h2, h3, h4, h5⟩ : crS (n + 1) p := hs
    refine gs_if1 g (t_eqI (g_v g (pv 0) rfl) r_int) (fun h H2 g2 => gs_ret g2 (r_eq (r_lstE vec [_] (ra_D (r_tupI (ra_I (g_v g2 (pv 1) rfl) ra_nilI)) ra_nil)) ?_) fun v H' g' r => fin_D g' (fun _ h => h) r hR) (fun h H2 g2 => ?_)
    · have e : p.1.toNat = 1 := by have := of_decide_eq_true h; omega
      rw [e, crowds1]
    have e : ∃ k, p.1.toNat = k + 2 := ⟨p.1.toNat - 2, by have := of_decide_eq_false h; omega⟩
    obtain ⟨k, hk⟩ := e
    have hk9 : 9 ^ k ≤ 9 ^ 2 := Nat.pow_le_pow_right (by decide) (by omega)
    refine gs_set g2 (i := 2) scLawCrowds.nd (r_lst (ds := []) ra_nil) (isD_mono _) fun σ3 H3 g3 => ?_

    refine gs_for g3 PassesOwn.never rfl (w_range B.range (r_add (g_v g3 (pv 1) rfl) r_int) (by walk_at "sz") (by walk_at "sz")) (pg_name (i := 3) scLawCrowds.nd rfl (by first | exact Or.inl rfl | exact Or.inr rfl)) (fun pre => [some (isD (.int p.1)), some (isD (.int p.2)), some (isD (lvec (pre.foldl (crIn k p.2) []))), none, none]) (fun _ => []) (fun H' g' => g'.le (by walk_at "leg")) (fun B' pre x post hx σ4 H4 v g4 hv => ?_) (fun σ4 H4 g4 => ?_)
    · refine gst_name g4 rfl (isD_mono _) hv fun σ5 g5 => ?_
      have hxr : x < (p.2 + 1).toNat := List.mem_range.mp (by rw [hx]; simp)
      have hlen : (pre.foldl (crIn k p.2) []).length ≤ 1000 := by
        refine Nat.le_trans (cr_len_fold (b := 9 ^ k) pre [] fun y hy => crowds_len k _ ?_ ?_) ?_
        · have := List.mem_range.mp (show y ∈ List.range (p.2 + 1).toNat by rw [hx]; simp [hy]); omega
        · omega
        · have hp : pre.length ≤ 9 := by
            have := congrArg List.length hx
            rw [List.length_range, List.length_append, List.length_cons] at this; omega
          have := Nat.mul_le_mul hp hk9
          simp at this ⊢; omega
      have hk1 : (p.1 - 1).toNat = k + 1 := by omega
      have hl2 := crowds_len k (p.2 - (x : Nat)) (by omega) (by omega)


      refine gs_set g5 (i := 2) scLawCrowds.nd (r_catLe vec (g_v g5 (pv 2) rfl) (r_lcA (own := [("_law_rest", 4)]) vec rfl scLawCrowds.nd (w_list (r_callD c__law_crowds (hr.mono (by omega)) (p := (_, _)) rfl (ra_D (r_sub (g_v g5 (pv 0) rfl) r_int) (ra_D (r_sub (g_v g5 (pv 1) rfl) (g_v g5 (pv 3) rfl)) ra_nil)) (by exact ⟨by dsimp only; omega, by dsimp only; omega, by dsimp only; omega, by dsimp only; omega, by dsimp only; omega⟩))) (blkOk_by (N := ["_law_kinds", "_law_size", "_law_found", "_law_x", "_law_rest"]) (sc := defScope sLawCrowds) (by decide +kernel)) (fun _ _ _ _ _ => pg_name (i := 4) scLawCrowds.nd rfl (by first | exact Or.inl rfl | exact Or.inr rfl)) (by first | omega | (simp only [List.length_map, hk1]; omega) | (have hm := ‹_ ∈ crowdsM _ _›; simp only [hk1] at hm; have hl3 := (crowds_mem k _ (by omega) _).mp hm; simp only [List.length_cons, List.length_nil]; omega)) (it_name g5 (j := 4) (by decide) rfl (fun _ => isD_mono _) (fun a1 ha1 _ _ _ g1 => ⟨b_nil, fun hp1 _ _ _ _ _ => (r_catV (r_tupI (ra_I (g_v g1 (pv 3) rfl) ra_nilI)) (g_v g1 (pv 4) rfl) (by first | omega | (simp only [List.length_map, hk1]; omega) | (have hm := ‹_ ∈ crowdsM _ _›; simp only [hk1] at hm; have hl3 := (crowds_mem k _ (by omega) _).mp hm; simp only [List.length_cons, List.length_nil]; omega)))⟩))) (by first | omega | (simp only [List.length_map, hk1]; omega) | (have hm := ‹_ ∈ crowdsM _ _›; simp only [hk1] at hm; have hl3 := (crowds_mem k _ (by omega) _).mp hm; simp only [List.length_cons, List.length_nil]; omega))) (isD_mono _) fun σ6 H6 g6 => sw_nil ?_
      simp only [hk1] at g6
      simp only [cr_snoc]
      exact g6.le (by walk_at "leg")


    · exact gs_ret g4 (r_eq (g_v g4 (pv 2) rfl) (by rw [hk, crowdsS])) fun v H' g' r => fin_D g' (fun _ h => h) r hR
end
end N34

set_option Elab.async false
set_option linter.all false
set_option maxRecDepth 100000
set_option maxHeartbeats 1000000
/-! books made -/
namespace N34
open PySem PySem.Spec PyProof.Rows L2
local macro_rules | `(tactic| walk_at "sz") => `(tactic| first | assumption | omega | (simp only [List.length_zip, List.length_map, List.length_range, List.length_zipIdx]; omega) | exact ⟨by omega, by omega⟩)
local macro_rules | `(tactic| walk_at "leg") => `(tactic| repeat (first | exact LeG.nil | apply LeG.keep | apply LeG.drop))
local macro_rules | `(tactic| walk_at "sd") => `(tactic| first | trivial | assumption | omega)
structure FnM (K : PySem.W.Frag) (x q : Str) (st : Stmt) (f : Addr) : Prop where
  ex : ∃ fd, FunD K x q (defArgs st) (defBody st) (defScope st) [] [] f fd
theorem NT.ins {C dx : Addr} {fs : List (Str × V)} : NT (.ins C dx fs) := fun _ h => nomatch h
theorem NT.dK {kvs : List (Key × V)} : NT (.dK kvs) := fun _ h => nomatch h
/-- Book(kinds, batches) -/
def spInit (C : Addr) : Sp := fun vs H Q _ => ∃ (S : List Addr) (x dx : Addr) (k : Nat) (B : List (List Int)) (kv bv : V), vs = [.ref x, kv, bv] ∧ Al S H ∧ x ∈ S ∧ H x = some (.ins C dx []) ∧ kv = .int k ∧ Dt (hid S H) bv (lvec B) ∧ VB k B ∧
  ∀ H' t d, Ex (hid [x] H) H' → H' x = some (.ins C dx (bfs k t d)) → Dt (hid S H') (.ref t) (tvec (vsort B)) → H d = none → H' d = some (.dK []) → Q .non H'
section
variable {P : Program} {w : World} {K : PySem.W.Frag} {mg : Str → Option Value} {base : Heap} {C f : Addr}



-- def Book.__init__ self:X kinds:i batches:lv
theorem scBookInit : FnScope ["self", "kinds", "batches", "at", "batch"] ["self", "kinds", "batches"] (defScope sBookInit) := ⟨rfl, rfl, rfl, by decide +kernel, rfl, by decide +kernel, by decide +kernel⟩
theorem ok_init (B : Bl mg) (T : BkF K C) (F : FnM K "__init__" "Book.__init__" sBookInit f) (c_is_number : Cl P w K mg base "is_number" 2 ["value"] sI2) (c_is_sequence : Cl P w K mg base "is_sequence" 1 ["value"] sSq) (c_is_batch : Cl P w K mg base "is_batch" 3 ["kinds", "value"] sBt) :
    ∃ fd, FnOk P w K mg base CX0 4 f fd ["self", "kinds", "batches"] (spInit C) ∧ Binds K fd ["self", "kinds", "batches"] [] := by
  obtain ⟨fd, Fd⟩ := F.ex
  refine ⟨fd, Fd.ok scBookInit (fun vs H Q E ⟨_, _, _, _, _, _, _, h, _⟩ => by rw [h]; rfl) (fun cdv A outer s H vs Q E hr h => ?_), Fd.bindsN fun _ _ _ _ _ _ us hl => match us, hl with | [_, _, _], _ => rfl⟩
  refine ⟨_, PSs.nox pss_SW, ?_⟩
  obtain ⟨S, x, dx, k, Bt, kv, bv, rfl, al, hxS, hx, rfl, db, vb, q⟩ := h
  have h5 := vb.le
  have h6 := vb.few
  have g : Sg S [hid [x] H] [some (isR x), some (isD (.int k)), some (isD (lvec Bt)), none, none] [(x, eqC (.ins C dx []))] (start ["self", "kinds", "batches", "at", "batch"] [.ref x, .int k, bv]) H :=
    Sg.startC (M := [(x, eqC (.ins C dx []))]) (Rs := [isR x, isD (.int k), isD (lvec Bt)]) (N := ["self", "kinds", "batches", "at", "batch"]) al ⟨isR_mono _, isD_mono _, isD_mono _, trivial⟩ ⟨_, _, rfl, rfl, _, _, rfl, .int _, _, _, rfl, db, rfl⟩ (Nat.le_of_ble_eq_true rfl) (.one hxS (eqC_mono .ins) hx rfl)

  refine gs_if1 g (t_eq (b' := false) (QT.pt (q_or (t_not (t_val (r_callD c_is_number (hr.mono (by omega)) (p := _) rfl (ra_D (g_v g (pv 1) rfl) ra_nil) (by trivial)))) (fun _ => (q_one_or (t_eqI (g_v g (pv 1) rfl) r_int))))) ?_) (fun h => nomatch h) fun _ H1 g1 => ?_
  · have := vb.pos
    simp; omega

  refine gs_if1 g1 (t_eq (b' := false) (t_not (t_val (r_callD c_is_sequence (hr.mono (by omega)) (p := _) rfl (ra_D (g_v g1 (pv 2) rfl) ra_nil) (by exact .inl ⟨_, rfl⟩)))) rfl) (fun h => nomatch h) fun _ H2 g2 => ?_
  have nodup : ∀ pre q post, Bt.zipIdx = pre ++ q :: post → q.1 ∉ Bt.take q.2 := fun pre q post e h => by
    have hq : q ∈ Bt.zipIdx := by rw [e]; simp
    have h1 := (zipIdx_mem hq).2
    obtain ⟨j, hj⟩ := List.getElem?_of_mem h
    rw [List.getElem?_take] at hj
    by_cases c : j < q.2
    · rw [if_pos c] at hj
      have h2 : j = q.2 := (List.getElem?_inj (l := Bt) (List.getElem?_eq_some_iff.mp hj).1 vb.nd).mp (hj.trans h1.symm)
      omega
    · rw [if_neg c] at hj; cases hj

  refine gs_for g2 PassesOwn.never rfl (w_enumL B.enumerate (g_v g2 (pv 2) rfl)) (pg_tup rfl (pgs_cons (pg_name (i := 3) scBookInit.nd rfl (by first | exact Or.inl rfl | exact Or.inr rfl)) (pgs_cons (pg_name (i := 4) scBookInit.nd rfl (by first | exact Or.inl rfl | exact Or.inr rfl)) pgs_nil))) (fun pre => [some (isR x), some (isD (.int k)), some (isD (lvec Bt)), none, none]) (fun _ => [(x, eqC (.ins C dx []))]) (fun H' g' => g'.le (by walk_at "leg")) (fun B' pre y post hy σ3 H3 v g3 hv => ?_) (fun σ3 H3 g3 => ?_)
  · refine gst_pair g3 rfl rfl (isD_mono _) (isD_mono _) hv fun σ4 g4 => ?_
    have hyB : y.1 ∈ Bt := (zipIdx_mem (by rw [hy]; simp)).1
    have hn := nodup _ _ _ hy
    have hb1 := vb.len _ hyB
    have hb2 := vb.nn _ hyB
    have hb3 := vb.ps _ hyB

    refine gs_if1 g4 (t_eq (b' := false) (QT.pt (q_or (t_not (t_val (r_callD c_is_batch (hr.mono (by omega)) (p := (_, _)) rfl (ra_D (g_v g4 (pv 1) rfl) (ra_D (g_v g4 (pv 4) rfl) ra_nil)) (by exact ⟨hb1, h5, hb2, hb3⟩)))) (fun _ => (q_one_or (t_inV (hu5 hr) (g_v g4 (pv 4) rfl) (r_slE vec (g_v g4 (pv 2) rfl) (g_v g4 (pv 3) rfl) rfl)))))) (by simpa using hn)) (fun h => nomatch h) fun _ H5 g5 => sw_nil ?_
    exact g5.le (by walk_at "leg")

  refine sx_fld (se_g g3 (g_v g3 (pv 1) rfl) fun y H5 g5 e5 r5 => se_g g5 (g_v g5 (pv 0) rfl) fun x' H6 g6 e6 r6 => ?_)
  obtain rfl := r5.intI
  obtain ⟨_, _, _, o, ho, rfl⟩ := g6.ce (x, eqC (.ins C dx [])) List.mem_cons_self
  refine ⟨x, C, dx, [], r6, ho, T.cls, T.nk, Nat.le_of_ble_eq_true rfl, ?_⟩
  have g7 := g6.put (i := 0) (C' := eqC (.ins C dx [("kinds", .int k)])) rfl (eqC_mono .ins) rfl
  have hne : ∀ b ∈ Bt, b ≠ [] := fun b hb h => by have := vb.ps b hb; rw [h] at this; simp at this

  refine sx_fld (se_g g7 (r_tupleL B.tuple (r_sortV B.sorted (g_v g7 (pv 2) rfl) (by exact hne))) fun y H8 g8 e8 r8 => se_g g8 (g_v g8 (pv 0) rfl) fun x' H9 g9 e9 r9 => ?_)

  obtain ⟨t, ts, rfl, _⟩ := r8.tupI
  obtain ⟨_, _, _, o, ho, rfl⟩ := g9.ce (x, eqC (.ins C dx [("kinds", .int k)])) List.mem_cons_self
  refine ⟨x, C, dx, _, r9, ho, T.cls, T.nb, Nat.le_of_ble_eq_true rfl, ?_⟩
  have g10 := g9.put (i := 0) (C' := eqC (.ins C dx [("kinds", .int k), ("batches", .ref t)])) rfl (eqC_mono .ins) rfl
  refine sx_fld (se_of pe_dnewK fun d hd => se_g (g10.next (Ex.new hd)) (g_v (g10.next (Ex.new hd)) (pv 0) rfl) fun x' H11 g11 e11 r11 => ?_)
  obtain ⟨_, _, _, o, ho, rfl⟩ := g11.ce (x, eqC (.ins C dx [("kinds", .int k), ("batches", .ref t)])) List.mem_cons_self
  refine ⟨x, C, dx, _, r11, ho, T.cls, T.nf, Nat.le_of_ble_eq_true rfl, sw_nil ?_⟩
  have g12 := g11.put (i := 0) (C' := eqC (.ins C dx (bfs k t d))) rfl (eqC_mono .ins) rfl
  have hdx : d ≠ x := fun z => by rw [z, upd_same] at hd; cases hd
  rw [upd_ne hdx] at hd
  refine q _ t d (g12.ex _ List.mem_cons_self) upd_same ?_ ?_ ?_
  · rw [hid_upd hxS]
    refine Dt.mono (hid_ex e11) (Dt.mono (hid_ex (Ex.new (by rw [upd_ne hdx]; exact hd))) ?_)
    rw [hid_upd hxS]
    exact r8.mono (hid_ex e9)
  · cases z : H d with
    | none => rfl
    | some o =>
      have := g9.ex _ List.mem_cons_self d o (by rw [hid_out (fun w => hdx (List.mem_singleton.mp w))]; exact z)
      rw [hd] at this; cases this
  · rw [upd_ne hdx]; exact e11 _ _ upd_same
end
end N34

set_option Elab.async false
set_option linter.all false
set_option maxRecDepth 100000
set_option maxHeartbeats 1000000
/-! Book(..) as an expression -/
namespace N34
open PySem PySem.Spec PyProof.Rows L2
mutual
theorem Dt.hide {F : Hp} {d : Addr} {kvs : List (Key × V)} (h : F d = some (.dK kvs)) : ∀ {v : V} {x : PyData}, Dt F v x → Dt (fun a => if a = d then none else F a) v x
  | _, _, .non => .non
  | _, _, .bl b => .bl b
  | _, _, .int i => .int i
  | _, _, .str x => .str x
  | _, _, .lst (a := a) q r => .lst (by rw [if_neg fun z => by rw [z, h] at q; cases q]; exact q) (DtA.hide h r)
  | _, _, .tup (a := a) q r => .tup (by rw [if_neg fun z => by rw [z, h] at q; cases q]; exact q) (DtA.hide h r)
theorem DtA.hide {F : Hp} {d : Addr} {kvs : List (Key × V)} (h : F d = some (.dK kvs)) : ∀ {vs : List V} {xs : List PyData}, DtA F vs xs → DtA (fun a => if a = d then none else F a) vs xs
  | _, _, .nil => .nil
  | _, _, .cons q r => .cons (Dt.hide h q) (DtA.hide h r)
end
structure MkB (P : Program) (w : World) (K : PySem.W.Frag) (mg : Str → Option Value) (base : Heap) (C : Addr) : Prop where
  ok : ∃ f fd, FnOk P w K mg base CX0 4 f fd ["self", "kinds", "batches"] (spInit C) ∧ Binds K fd ["self", "kinds", "batches"] [] ∧ Mk K C f ∧ mg "Book" = some (.ref C)
section
variable {X : Cx} {S : List Addr} {σ : L2.St} {H0 H : Hp} {a b : Expr} {pos p : Pos} {C : Addr} {k : Nat} {B : List (List Int)} {Q : VK}
theorem se_book (M : MkB X.prog X.w X.K X.mg X.base C) (hr : Room 5 X.A) (ha : PA X [a, b] (tRA S σ H0 [isD (.int k), isD (lvec B)])) (vb : VB k B) (ex : Ex H0 H) (al : Al S H)
    (q : ∀ x d H2, Ex H H2 → H x = none → H d = none → H2 d = some (.dK []) → isB C k (vsort B) d (.ref x) (hid (d :: S) H2) → Q (.ref x) H2)
    (hg : Gl X "Book" := by rfl) (he : starEach [a, b] X.env = (false, eval a X.env) :: starEach [b] X.env := by rfl) (hpl : (backTo pos (starEach [b] X.env)).any (·.1) = false := by rfl) : SE X (.Call (.Name "Book" p) [a, b] [] pos) σ H Q := by
  obtain ⟨f, fd, F, hb, mk, hm⟩ := M.ok
  refine se_of (pe_make mk F hr hg hm hb .nil pass0 ha (by decide) he hpl) ⟨rfl, ex, al, fun vs H1 e1 ra x dx hx hdx hne => ?_⟩
  obtain ⟨v1, ws, rfl, h1, v2, ws2, rfl, h2, h3⟩ := ra
  obtain rfl : ws2 = [] := h3
  obtain rfl := h1.intI
  have hdx2 : upd H1 dx (.own x) x = none := by rw [upd_ne (Ne.symm hne)]; exact hx
  have eM : Ex H1 (upd (upd H1 dx (.own x)) x (.ins C dx [])) := (Ex.new hdx).trans (Ex.new hdx2)
  refine ⟨x :: S, x, dx, k, B, .int k, v2, rfl, ((al.ex e1).ex eM).cons upd_same .ins, List.mem_cons_self, upd_same, rfl, h2.mono (hid_cons eM hx), vb, fun H' t d e2 g1 g2 g3 g4 => ⟨rfl, ?_⟩⟩
  have e3 : Ex H1 H' := fun y o hy => by
    refine e2 y o ?_
    have hyx : y ≠ x := fun z => by rw [z, hx] at hy; cases hy
    rw [hid_out (fun z => hyx (List.mem_singleton.mp z))]
    exact eM y o hy
  have dx' : d ≠ x := fun z => by rw [z, upd_same] at g3; cases g3
  have hd1 : H1 d = none := eM.free g3
  refine q x d H' (e1.trans e3) (e1.free hx) (e1.free hd1) g4 ⟨x, dx, t, rfl, ?_, ?_⟩
  · rw [hid_out (fun z => ?_)]
    · exact g1
    · rcases List.mem_cons.mp z with z | z
      · exact dx' z.symm
      · exact (al.ex e1).out hx z
  · have hdn : d ∉ x :: S := fun z => (List.mem_cons.mp z).elim dx' ((al.ex e1).out hd1)
    have h := Dt.hide (d := d) (kvs := []) (by rw [hid_out hdn]; exact g4) g2
    · refine Dt.mono (fun y o hy => ?_) h
      by_cases c : y = d
      · rw [if_pos c] at hy; cases hy
      · rw [if_neg c] at hy
        obtain ⟨n, hy⟩ := hid_some hy
        rw [hid_out (fun z => ?_)]
        · exact hy
        · rcases List.mem_cons.mp z with z | z
          · exact c z
          · exact n (List.mem_cons_of_mem _ z)
theorem r_book (M : MkB X.prog X.w X.K X.mg X.base C) (hr : Room 5 X.A) (ha : PA X [a, b] (tRA S σ H0 [isD (.int k), isD (lvec B)])) (vb : VB k B)
    (hg : Gl X "Book" := by rfl) (he : starEach [a, b] X.env = (false, eval a X.env) :: starEach [b] X.env := by rfl) (hpl : (backTo pos (starEach [b] X.env)).any (·.1) = false := by rfl) : PE X (.Call (.Name "Book" p) [a, b] [] pos) (tR S σ H0 (isBk C k (vsort B))) :=
  PE_imp pe_SE fun σ' H Q ⟨es, ex, al, k⟩ => by
    subst es
    exact se_book M hr ha vb ex al (fun x d H2 e1 _ _ _ h => k _ _ e1 ⟨d, (isB_mono C _ _ d) _ _ _ hid_tl h⟩) hg he hpl
end
end N34

set_option Elab.async false
set_option linter.all false
set_option maxRecDepth 100000
set_option maxHeartbeats 1000000
/-! chosen, beside -/
namespace N34
open PySem PySem.Spec PyProof.Rows L2
theorem chosen_nil {lot : List Int} : chosenM [] lot = [] := by unfold chosenM; rfl
theorem chosen_snoc {pre : List (List Int)} {b lot : List Int} : chosenM (pre ++ [b]) lot = chosenM pre lot ++ (if (cut lot b).sum = b.sum then [cut lot b] else []) := by
  unfold chosenM
  rw [List.filter_append, List.map_append]
  by_cases h : (cut lot b).sum = b.sum <;> simp [h]
theorem chosen_len {B : List (List Int)} {lot : List Int} : (chosenM B lot).length ≤ B.length := by
  unfold chosenM; rw [List.length_map]; exact List.length_filter_le _ _
theorem cut_def {lot b : List Int} : cut lot b = lot.map fun j => vAt b j := by unfold cut; rfl
local macro_rules | `(tactic| walk_at "sz") => `(tactic| first | assumption | omega | (simp only [List.length_zip, List.length_map, List.length_range, List.length_zipIdx]; omega) | exact ⟨by omega, by omega⟩)
local macro_rules | `(tactic| walk_at "leg") => `(tactic| repeat (first | exact LeG.nil | apply LeG.keep | apply LeG.drop))
local macro_rules | `(tactic| walk_at "sd") => `(tactic| first | trivial | assumption | omega)
/-- a def that makes a book -/
def spMk (C : Addr) (pre : List V → Hp → Nat → List (List Int) → Prop) : Sp := fun vs H Q _ => ∃ S k B, Al S H ∧ pre vs (hid S H) k B ∧
  ∀ a d H2, Ex H H2 → H a = none → H d = none → H2 d = some (.dK []) → isB C k B d (.ref a) (hid (d :: S) H2) → Q (.ref a) H2
theorem isB_hid {C : Addr} {k : Nat} {B : List (List Int)} {d : Addr} {v : V} {S S' : List Addr} {H : Hp} (h : isB C k B d v (hid S' H)) (hs : ∀ b ∈ S, b ∈ S') : isB C k B d v (hid S H) := isB_mono C k B d _ _ _ (hid_more hs) h
section
variable {P : Program} {w : World} {K : PySem.W.Frag} {mg : Str → Option Value} {base : Heap} {C : Addr}
abbrev bl (C : Addr) (p : Nat × List (List Int) × List Int) : List RV := [isBk C p.1 p.2.1, isD (lint p.2.2)]
abbrev blS (p : Nat × List (List Int) × List Int) : Prop := VB p.1 p.2.1 ∧ (∀ i ∈ p.2.2, 0 ≤ i ∧ i < p.1) ∧ p.2.2.length ≤ 100 ∧ VB p.2.2.length (chosenM p.2.1 p.2.2)
abbrev sCh (C : Addr) := spMk C (fun vs F k B => ∃ p, AllR (bl C p) vs F ∧ blS p ∧ k = p.2.2.length ∧ B = vsort (chosenM p.2.1 p.2.2))
-- def chosen book:B kinds:li
theorem scChosen : FnScope ["book", "kinds", "kept", "batch", "kind"] ["book", "kinds"] (defScope sChosen) := ⟨rfl, rfl, rfl, by decide +kernel, rfl, by decide +kernel, by decide +kernel⟩
theorem ok_chosen (B : Bl mg) (T : BkF K C) (F : FnAt K mg "chosen" sChosen) (M : MkB P w K mg base C) : Cl P w K mg base "chosen" 6 ["book", "kinds"] (sCh C) := by
  obtain ⟨f, fd, Fd, hm⟩ := F.ex
  refine ⟨f, fd, Fd.ok scChosen (fun vs H Q E ⟨_, _, _, _, ⟨p, h, _⟩, _⟩ => h.length) (fun cdv A outer s H vs Q E hr h => ⟨_, PSs.nox pss_SW, ?_⟩), hm, Fd.kp, Fd.bindsN fun _ _ _ _ _ _ us hl => match us, hl with | [_, _], _ => rfl⟩
  obtain ⟨S, k, Bt, al, ⟨p, ha, ⟨vb, h2, h3, vb2⟩, rfl, rfl⟩, q⟩ := h
  have h5 := vb.le
  have h6 := vb.few
  have g := Sg.start (Rs := bl C p) (N := ["book", "kinds", "kept", "batch", "kind"]) al (⟨isBk_mono _ _ _, isD_mono _, trivial⟩ : MonoA (bl C p)) ha (by rw [ha.length]; exact Nat.le_of_ble_eq_true rfl)
  refine gs_newL (i := 2) (ds := []) g scChosen.nd ra_nil fun l σ1 H1 hl g1 => ?_
  refine gs_for g1 PassesOwn.never rfl (w_tup (g_batches T (g_v g1 (pv 0) rfl))) (pg_name (i := 3) scChosen.nd rfl (by first | exact Or.inl rfl | exact Or.inr rfl)) (fun pre => [some (isBk C p.1 p.2.1), some (isD (lint p.2.2)), some (isR l), none, none]) (fun pre => [(l, lisC ((chosenM pre p.2.2).map vec))]) (fun H' g' => ?_) (fun B' pre x post hx σ2 H2 v g2 hv => ?_) (fun σ2 H2 g2 => ?_)
  · simp only [chosen_nil]
    exact g'.le (by walk_at "leg")
  · refine gst_name g2 rfl (isD_mono _) hv fun σ3 g3 => ?_
    have hxB : x ∈ p.2.1 := by rw [hx]; simp
    have hxl := vb.len _ hxB


    refine gs_if1 g3 (t_eq (b' := decide ((cut p.2.2 x).sum = x.sum)) (t_eqI (r_sum rfl B.sum (r_lcA (own := [("kind", 4)]) .int rfl scChosen.nd (w_list (g_v g3 (pv 1) rfl)) (blkOk_by (N := ["book", "kinds", "kept", "batch", "kind"]) (sc := defScope sChosen) (by decide +kernel)) (fun _ _ _ _ _ => pg_name (i := 4) scChosen.nd rfl (by first | exact Or.inl rfl | exact Or.inr rfl)) (by walk_at "sz") (it_name g3 (j := 4) (by decide) rfl (fun _ => isD_mono _) (fun a1 ha1 _ _ _ g1 => ⟨b_nil, fun hp1 _ _ _ _ _ => (r_ixT (g_v g1 (pv 3) rfl) (g_v g1 (pv 4) rfl) (by exact atI_v (by have := h2 _ ‹_›; omega)))⟩)))) (r_sumT rfl B.sum (g_v g3 (pv 3) rfl))) (by simp only [cut_def])) (fun h H4 g4 => ?_) (fun h H4 g4 => sw_nil ?_)
    · refine gs_exprG g4 (e_app (j := 0) (e_of fun _ _ gg => (g_v gg (pv 2) rfl)) rfl (e_of fun _ _ gg => (r_tupleL B.tuple (r_lcA (own := [("kind", 4)]) .int rfl scChosen.nd (w_list (g_v gg (pv 1) rfl)) (blkOk_by (N := ["book", "kinds", "kept", "batch", "kind"]) (sc := defScope sChosen) (by decide +kernel)) (fun _ _ _ _ _ => pg_name (i := 4) scChosen.nd rfl (by first | exact Or.inl rfl | exact Or.inr rfl)) (by walk_at "sz") (it_name gg (j := 4) (by decide) rfl (fun _ => isD_mono _) (fun a2 ha2 _ _ _ g2 => ⟨b_nil, fun hp2 _ _ _ _ _ => (r_ixT (g_v g2 (pv 3) rfl) (g_v g2 (pv 4) rfl) (by exact atI_v (by have := h2 _ ‹_›; omega)))⟩))))) rfl (by rw [List.length_map]; have := chosen_len (B := pre) (lot := p.2.2); have h7 := congrArg List.length hx; rw [List.length_append] at h7; omega)) fun H5 g5 => sw_nil (sw_nil ?_)
      simp only [chosen_snoc, if_pos (of_decide_eq_true h), List.map_append, List.map_cons, List.map_nil]
      simp only [cut_def (b := x)]
      exact g5.le (by walk_at "leg")
    · simp only [chosen_snoc, if_neg (of_decide_eq_false h), List.append_nil]
      exact g4.le (by walk_at "leg")


  have g3 := g2.freeze (S := S) (i := 2) (j := 0) (fun b hb => List.mem_cons_of_mem _ hb) hl rfl rfl (fun p hp => nomatch hp)
  refine sx_ret (se_book M (hr.mono (by omega)) (ra_D (r_eq (d' := .int (p.2.2.length : Nat)) (r_lenL B.len (g_v g3 (pv 1) rfl)) (by rw [List.length_map])) (ra_D (g_v g3 (pv 2) rfl) ra_nil)) vb2 (Ex.refl _) g3.al fun a d H3 e1 ha hd hdk hb => ?_)
  have e0 : Ex H _ := g3.ex _ List.mem_cons_self
  exact q a d H3 (e0.trans e1) (e0.free ha) (e0.free hd) hdk hb
abbrev b2 (C : Addr) (p : (Nat × List (List Int)) × (Nat × List (List Int))) : List RV := [isBk C p.1.1 p.1.2, isBk C p.2.1 p.2.2]
def besideM (p : (Nat × List (List Int)) × (Nat × List (List Int))) : List (List Int) := (p.1.2.map fun b => b ++ zer p.2.1) ++ p.2.2.map fun b => zer p.1.1 ++ b
abbrev b2S (p : (Nat × List (List Int)) × (Nat × List (List Int))) : Prop := VB p.1.1 p.1.2 ∧ VB p.2.1 p.2.2 ∧ VB (p.1.1 + p.2.1) (besideM p)
abbrev sBs (C : Addr) := spMk C (fun vs F k B => ∃ p, AllR (b2 C p) vs F ∧ b2S p ∧ k = p.1.1 + p.2.1 ∧ B = vsort (besideM p))
-- def beside one:B other:B
theorem scBeside : FnScope ["one", "other", "first", "batch"] ["one", "other"] (defScope sBeside) := ⟨rfl, rfl, rfl, by decide +kernel, rfl, by decide +kernel, by decide +kernel⟩
theorem ok_beside (B : Bl mg) (T : BkF K C) (F : FnAt K mg "beside" sBeside) (M : MkB P w K mg base C) : ClF P w K mg base CX0 "beside" sBeside 6 ["one", "other"] (sBs C) := by
  obtain ⟨f, fd, Fd, hm⟩ := F.ex
  refine ⟨f, fd, Fd.ok scBeside (fun vs H Q E ⟨_, _, _, _, ⟨p, h, _⟩, _⟩ => h.length) (fun cdv A outer s H vs Q E hr h => ⟨_, PSs.nox pss_SW, ?_⟩), hm, Fd⟩
  obtain ⟨S, k, Bt, al, ⟨p, ha, ⟨v1, v2, v3⟩, rfl, rfl⟩, q⟩ := h
  have h1 := v1.le
  have h2 := v1.pos
  have h3 := v1.few
  have h4 := v2.le
  have h5 := v2.pos
  have h6 := v2.few
  have g := Sg.start (Rs := b2 C p) (N := ["one", "other", "first", "batch"]) al (⟨isBk_mono _ _ _, isBk_mono _ _ _, trivial⟩ : MonoA (b2 C p)) ha (by rw [ha.length]; exact Nat.le_of_ble_eq_true rfl)

  refine gs_setLcA (i := 2) (own := [("batch", 3)]) vec g rfl scBeside.nd (w_tup (g_batches T (g_v g (pv 0) rfl))) (blkOk_by (N := ["one", "other", "first", "batch"]) (sc := defScope sBeside) (by decide +kernel)) (fun _ _ _ _ _ => pg_name (i := 3) scBeside.nd rfl (by first | exact Or.inl rfl | exact Or.inr rfl)) (by first | omega | exact ⟨by omega, by omega⟩ | (have hb1 := v1.len _ ‹_›; simp only [List.length_replicate, Int.toNat_natCast]; omega) | (have hb1 := v2.len _ ‹_›; simp only [List.length_replicate, Int.toNat_natCast]; omega) | (simp only [List.length_map]; omega)) (it_name g (j := 3) (by decide) rfl (fun _ => isD_mono _) (fun a3 ha3 _ _ _ g3 => ⟨b_nil, fun hp3 _ _ _ _ _ => (r_catV (g_v g3 (pv 3) rfl) (r_repV (r_tupI (ra_I r_int ra_nilI)) (g_kinds T (g_v g3 (pv 1) rfl)) (by first | omega | exact ⟨by omega, by omega⟩ | (have hb1 := v1.len _ ‹_›; simp only [List.length_replicate, Int.toNat_natCast]; omega) | (have hb1 := v2.len _ ‹_›; simp only [List.length_replicate, Int.toNat_natCast]; omega) | (simp only [List.length_map]; omega))) (by first | omega | exact ⟨by omega, by omega⟩ | (have hb1 := v1.len _ ‹_›; simp only [List.length_replicate, Int.toNat_natCast]; omega) | (have hb1 := v2.len _ ‹_›; simp only [List.length_replicate, Int.toNat_natCast]; omega) | (simp only [List.length_map]; omega)))⟩)) fun σ1 H1 g1 => ?_

  refine sx_ret (se_book M (hr.mono (by omega)) (ra_D (r_eq (d' := .int ((p.1.1 + p.2.1 : Nat))) (r_add (g_kinds T (g_v g1 (pv 0) rfl)) (g_kinds T (g_v g1 (pv 1) rfl))) (by simp)) (ra_D (r_eq (d' := lvec (besideM p)) (r_catLe vec (g_v g1 (pv 2) rfl) (r_lcA (own := [("batch", 3)]) vec rfl scBeside.nd (w_tup (g_batches T (g_v g1 (pv 1) rfl))) (blkOk_by (N := ["one", "other", "first", "batch"]) (sc := defScope sBeside) (by decide +kernel)) (fun _ _ _ _ _ => pg_name (i := 3) scBeside.nd rfl (by first | exact Or.inl rfl | exact Or.inr rfl)) (by first | omega | exact ⟨by omega, by omega⟩ | (have hb1 := v1.len _ ‹_›; simp only [List.length_replicate, Int.toNat_natCast]; omega) | (have hb1 := v2.len _ ‹_›; simp only [List.length_replicate, Int.toNat_natCast]; omega) | (simp only [List.length_map]; omega)) (it_name g1 (j := 3) (by decide) rfl (fun _ => isD_mono _) (fun a4 ha4 _ _ _ g4 => ⟨b_nil, fun hp4 _ _ _ _ _ => (r_catV (r_repV (r_tupI (ra_I r_int ra_nilI)) (g_kinds T (g_v g4 (pv 0) rfl)) (by first | omega | exact ⟨by omega, by omega⟩ | (have hb1 := v1.len _ ‹_›; simp only [List.length_replicate, Int.toNat_natCast]; omega) | (have hb1 := v2.len _ ‹_›; simp only [List.length_replicate, Int.toNat_natCast]; omega) | (simp only [List.length_map]; omega))) (g_v g4 (pv 3) rfl) (by first | omega | exact ⟨by omega, by omega⟩ | (have hb1 := v1.len _ ‹_›; simp only [List.length_replicate, Int.toNat_natCast]; omega) | (have hb1 := v2.len _ ‹_›; simp only [List.length_replicate, Int.toNat_natCast]; omega) | (simp only [List.length_map]; omega)))⟩))) (by first | omega | exact ⟨by omega, by omega⟩ | (have hb1 := v1.len _ ‹_›; simp only [List.length_replicate, Int.toNat_natCast]; omega) | (have hb1 := v2.len _ ‹_›; simp only [List.length_replicate, Int.toNat_natCast]; omega) | (simp only [List.length_map]; omega))) ?_) ra_nil)) v3 (Ex.refl _) g1.al fun a d H3 e1 ha hd hdk hb => ?_)
  · unfold besideM
    simp only [Int.toNat_natCast, zer_def]
  have e0 : Ex H _ := g1.ex _ List.mem_cons_self
  exact q a d H3 (e0.trans e1) (e0.free ha) (e0.free hd) hdk hb

end
end N34

set_option Elab.async false
set_option linter.all false
set_option maxRecDepth 100000
set_option maxHeartbeats 1000000
/-! books compared -/
namespace N34
open PySem PySem.Spec PyProof.Rows L2
structure EqF (K : PySem.W.Frag) (mg : Str → Option Value) (C f : Addr) : Prop where
  ins : C8.InsC K C
  glo : mg "Book" = some (.ref C)
  fn : FnM K "__eq__" "Book.__eq__" sBookEq f
  eq : PySem.W.findIn K (.ref C) "__eq__" = some (some (.ref f))
  isF : PySem.W.isFn K (.ref f) = true
section
variable {X : Cx} {S : List Addr} {σ0 : L2.St} {H0 : Hp} {a b : Expr} {pos p p2 : Pos} {C : Addr} {k : Nat} {Bt : List (List Int)}
theorem r_isBook (I : C8.InsC X.K C) (hm : X.mg "isinstance" = none) (hC : X.mg "Book" = some (.ref C)) (ha : PE X a (tR S σ0 H0 (isBk C k Bt))) (hg : Gl X "isinstance" := by rfl) (hgC : Gl X "Book" := by rfl)
    (hs : starEach [a, .Name "Book" p2] X.env = (false, eval a X.env) :: starEach [.Name "Book" p2] X.env := by rfl) (hpl : (backTo pos (starEach [.Name "Book" p2] X.env)).any (·.1) = false := by rfl) :
    PE X (.Call (.Name "isinstance" p) [a, .Name "Book" p2] [] pos) (tR S σ0 H0 (isD (.bool true))) := by
  have hC' : PE X (.Name "Book" p2) (tR S σ0 H0 (isR C)) := PE_imp (pe_glob hgC hC (show RelV (.ref C) (.ref C) from rfl)) fun σ H Q ⟨_, _, _, k⟩ => k _ H (Ex.refl _) rfl
  exact r_callB (C8.call_isC I) hm (by decide +kernel) (ra_cons (isBk_mono C k Bt) ha (ra_cons (isR_mono C) hC' ra_nil) hs) (fun vs H _ _ h Q kk => by
    obtain ⟨v, ws, rfl, ⟨d, x, dx, t, rfl, h1, h2⟩, u, us, rfl, h3, h4⟩ := h
    obtain rfl : u = .ref C := h3
    obtain rfl : us = [] := h4
    exact ⟨x, dx, _, rfl, hid_le _ _ h1, kk _ H (Ex.refl _) (.bl _)⟩) hg (he := hs) (hpl := hpl)
end
section
variable {P : Program} {w : World} {K : PySem.W.Frag} {mg : Str → Option Value} {base : Heap} {C f : Addr}
abbrev sEq (C : Addr) := spF (spD (b2 C) (fun _ => True) fun p => .bool (decide ((p.1.1 : Int) = (p.2.1 : Int)) && decide (p.1.2 = p.2.2)))
-- def Book.__eq__ self:B other:B
theorem scBookEq : FnScope ["self", "other"] ["self", "other"] (defScope sBookEq) := ⟨rfl, rfl, rfl, by decide +kernel, rfl, by decide +kernel, by decide +kernel⟩
theorem ok_eq (B : Bl mg) (T : BkF K C) (E : EqF K mg C f) : ∃ fd, FnOk P w K mg base CX0 1 f fd ["self", "other"] (sEq C) ∧ Binds K fd ["self", "other"] [] := by
  obtain ⟨fd, Fd⟩ := E.fn.ex
  refine ⟨fd, Fd.ok scBookEq (fun vs H Q E ⟨_, _, _, ⟨p, h, _⟩, _⟩ => h.length) (fun cdv A outer s H vs Q Ex hr h => ⟨_, PSs.nox pss_SW, ?_⟩), Fd.bindsN fun _ _ _ _ _ _ us hl => match us, hl with | [_, _], _ => rfl⟩
  obtain ⟨S, R, al, ⟨p, ha, _, hR⟩, q⟩ := h
  have g := Sg.start (Rs := b2 C p) (N := ["self", "other"]) al (⟨isBk_mono _ _ _, isBk_mono _ _ _, trivial⟩ : MonoA (b2 C p)) ha (by rw [ha.length]; exact Nat.le_of_ble_eq_true rfl)
  refine gs_if1 g (t_eq (b' := false) (t_not (t_val (r_isBook E.ins B.isinstance E.glo (g_v g (pv 1) rfl)))) rfl) (fun h => nomatch h) fun _ H1 g1 => ?_

  refine gs_ret g1 (r_eq (r_and (r_eqI (g_kinds T (g_v g1 (pv 0) rfl)) (g_kinds T (g_v g1 (pv 1) rfl))) (fun _ => (r_one (r_eqD (hu4 hr) (g_batches T (g_v g1 (pv 0) rfl)) (g_batches T (g_v g1 (pv 1) rfl)) (by exact shp_tvec _) (by exact shp_tvec _))))) (by rw [eqv_tvec])) fun v H' g' r => ?_

  obtain ⟨e, h⟩ := fin_D g' (fun _ h => h) r hR
  exact q _ _ e h
end
section
variable {X : Cx} {S : List Addr} {σ0 : L2.St} {H0 : Hp} {a b : Expr} {pos : Pos} {C f : Addr} {k1 k2 : Nat} {B1 B2 : List (List Int)}
theorem op_neB (T : BkF X.K C) (E : EqF X.K X.mg C f) (hr : Room 2 X.A) (F : ∃ fd, FnOk X.prog X.w X.K X.mg X.base CX0 1 f fd ["self", "other"] (sEq C) ∧ Binds X.K fd ["self", "other"] []) :
    OpR X (compareOp .NotEq) (fun x y H Q => ∃ a b dx dy fs gs, x = .ref a ∧ y = .ref b ∧ H a = some (.ins C dx fs) ∧ H b = some (.ins C dy gs) ∧ sEq C [.ref a, .ref b] H (fun v H' => ∃ k, v = .bl k ∧ Q (.bl (!k)) H') E0) := by
  obtain ⟨fd, F, hb⟩ := F
  exact op_neOwn F hr hb T.mro T.ne E.eq E.isF
theorem t_neB (T : BkF X.K C) (E : EqF X.K X.mg C f) (hr : Room 2 X.A) (F : ∃ fd, FnOk X.prog X.w X.K X.mg X.base CX0 1 f fd ["self", "other"] (sEq C) ∧ Binds X.K fd ["self", "other"] [])
    (ha : PE X a (tR S σ0 H0 (isBk C k1 B1))) (hb : PE X b (tR S σ0 H0 (isBk C k2 B2))) : PT X (.Compare a [.NotEq] [b] pos) (tRT S σ0 H0 (!(decide ((k1 : Int) = (k2 : Int)) && decide (B1 = B2)))) :=
  PT_cmp_of (op_neB T E hr F) ha hb (isBk_mono _ _ _) (fun x y H _ al hx hy Q k => by
    have hx' := hx
    have hy' := hy
    obtain ⟨d1, x1, dx1, t1, rfl, h1, _⟩ := hx
    obtain ⟨d2, x2, dx2, t2, rfl, h2, _⟩ := hy
    refine ⟨x1, x2, dx1, dx2, _, _, rfl, rfl, hid_le _ _ h1, hid_le _ _ h2, S, _, al, ⟨((k1, B1), (k2, B2)), ⟨_, _, rfl, hx', _, _, rfl, hy', rfl⟩, trivial, fun _ _ h => h⟩, fun v H' e r => ⟨_, Dt.blI r, k _ _ e (.bl _)⟩⟩) (nomark _)
end
end N34

set_option Elab.async false
set_option linter.all false
set_option maxRecDepth 100000
set_option maxHeartbeats 1000000
/-! parts -/
namespace N34
open PySem PySem.Spec PyProof.Rows L2
theorem map_self {α : Type} (l : List α) : (l.map fun a => a) = l := List.map_id l
/-- lots of kinds below k, of together at most k -/
structure LotsOk (k : Nat) (L : List (List Int)) : Prop where
  lt : ∀ l ∈ L, ∀ i ∈ l, 0 ≤ i ∧ i < k
  perm : L.flatten.Perm ((List.range k).map fun j : Nat => (j : Int))
  ne : ∀ l ∈ L, l ≠ []
theorem flat_len {L : List (List Int)} (h : ∀ l ∈ L, l ≠ []) : L.length ≤ L.flatten.length := by
  induction L with
  | nil => simp
  | cons a L ih =>
    rw [List.length_cons, List.flatten_cons, List.length_append]
    have := ih fun l hl => h l (List.mem_cons_of_mem _ hl)
    have h2 := List.length_pos_iff.mpr (h a List.mem_cons_self)
    omega
theorem LotsOk.few {k : Nat} {L : List (List Int)} (o : LotsOk k L) : L.length ≤ k := by
  have := flat_len o.ne
  rw [o.perm.length_eq] at this
  simpa using this
theorem flat_mem_len {L : List (List Int)} {l : List Int} (h : l ∈ L) : l.length ≤ L.flatten.length := by
  obtain ⟨a, b, rfl⟩ := List.append_of_mem h
  simp
  omega
theorem LotsOk.small {k : Nat} {L : List (List Int)} (o : LotsOk k L) {l : List Int} (h : l ∈ L) : l.length ≤ k := by
  have := flat_mem_len h
  rw [o.perm.length_eq] at this
  simpa using this
theorem flatten_filter_perm (p : List Int → Bool) : ∀ L : List (List Int), ((L.filter fun l => !p l).flatten ++ (L.filter p).flatten).Perm L.flatten
  | [] => .nil
  | a :: L => by
    have ih := flatten_filter_perm p L
    cases h : p a with
    | true =>
      simp only [List.filter_cons, h, Bool.not_true, Bool.false_eq_true, if_false, if_true, List.flatten_cons]
      refine List.Perm.trans ?_ (ih.append_left a)
      rw [← List.append_assoc, ← List.append_assoc]
      exact (List.perm_append_comm).append_right _
    | false =>
      simp only [List.filter_cons, h, Bool.not_false, Bool.false_eq_true, if_false, if_true, List.flatten_cons]
      rw [List.append_assoc]
      exact ih.append_left a
theorem tied_mem {b : List Int} {L : List (List Int)} {l : List Int} : l ∈ tiedM b L ↔ l ∈ L ∧ ∃ j ∈ l, 0 < vAt b j := by
  unfold tiedM
  rw [List.mem_filter]
  simp
theorem partStep_ok {k : Nat} {L : List (List Int)} {b : List Int} (o : LotsOk k L) (hb : ∃ j : Int, (0 ≤ j ∧ j < k) ∧ 0 < vAt b j) : LotsOk k (partStep L b) := by
  have e : (L.filter fun lot => !(tiedM b L).contains lot) = L.filter fun lot => !((lot.map fun j => decide (0 < vAt b j)).any id) := by
    refine List.filter_congr fun l hl => ?_
    congr 1
    rw [Bool.eq_iff_iff, List.contains_iff_mem, tied_mem]
    simp [hl]
  have hne : (tiedM b L).flatten ≠ [] := by
    obtain ⟨j, hj, hp⟩ := hb
    have : j ∈ L.flatten := o.perm.symm.subset (List.mem_map.mpr ⟨j.toNat, by simp; omega, by omega⟩)
    obtain ⟨l, hl, hjl⟩ := List.mem_flatten.mp this
    intro z
    have : j ∈ (tiedM b L).flatten := List.mem_flatten.mpr ⟨l, tied_mem.mpr ⟨hl, j, hjl, hp⟩, hjl⟩
    rw [z] at this; simp at this
  unfold partStep
  refine ⟨fun l hl i hi => ?_, ?_, fun l hl => ?_⟩
  · rcases List.mem_append.mp hl with h | h
    · exact o.lt l (List.mem_filter.mp h).1 i hi
    · rw [List.mem_singleton.mp h] at hi
      obtain ⟨l', h1, h2⟩ := List.mem_flatten.mp hi
      exact o.lt l' (tied_mem.mp h1).1 i h2
  · rw [e, List.flatten_append]
    have : [(tiedM b L).flatten].flatten = (L.filter fun lot => (lot.map fun j => decide (0 < vAt b j)).any id).flatten := by
      simp [tiedM]
    rw [this]
    exact (flatten_filter_perm _ L).trans o.perm
  · rcases List.mem_append.mp hl with h | h
    · exact o.ne l (List.mem_filter.mp h).1
    · rw [List.mem_singleton.mp h]; exact hne
theorem lots0_ok (k : Nat) : LotsOk k ((List.range k).map fun j : Nat => [((j : Nat) : Int)]) := by
  refine ⟨fun l hl i hi => ?_, ?_, fun l hl => ?_⟩
  · obtain ⟨j, hj, rfl⟩ := List.mem_map.mp hl
    rw [List.mem_singleton.mp hi]
    have := List.mem_range.mp hj
    omega
  · have : ∀ l : List Nat, (l.map fun j : Nat => [((j : Nat) : Int)]).flatten = l.map fun j : Nat => ((j : Nat) : Int) := fun l => by
      induction l with
      | nil => rfl
      | cons a l ih => rw [List.map_cons, List.flatten_cons, ih]; rfl
    rw [this]
  · obtain ⟨j, hj, rfl⟩ := List.mem_map.mp hl
    simp
theorem pos_at {b : List Int} {k : Nat} (hl : b.length = k) (hn : ∀ x ∈ b, 0 ≤ x) (hs : 0 < b.sum) : ∃ j : Int, (0 ≤ j ∧ j < k) ∧ 0 < vAt b j := by
  have : ∃ x ∈ b, 0 < x := by
    refine Classical.byContradiction fun h => ?_
    have h0 : ∀ l : List Int, (∀ x ∈ l, 0 ≤ x) → (¬ ∃ x ∈ l, 0 < x) → l.sum = 0 := by
      intro l
      induction l with
      | nil => intro _ _; rfl
      | cons a l ih =>
        intro h1 h2
        rw [List.sum_cons, ih (fun x hx => h1 x (List.mem_cons_of_mem _ hx)) fun ⟨x, hx, h⟩ => h2 ⟨x, List.mem_cons_of_mem _ hx, h⟩]
        have := h1 a List.mem_cons_self
        have : ¬ 0 < a := fun z => h2 ⟨a, List.mem_cons_self, z⟩
        omega
    rw [h0 b hn h] at hs; omega
  obtain ⟨x, hx, hp⟩ := this
  obtain ⟨j, hj⟩ := List.getElem?_of_mem hx
  have hlt := (List.getElem?_eq_some_iff.mp hj).1
  refine ⟨j, by omega, ?_⟩
  unfold vAt
  simp [hj, hp]
theorem parts_fold_ok {k : Nat} : ∀ (pre : List (List Int)) {L : List (List Int)}, LotsOk k L → (∀ b ∈ pre, ∃ j : Int, (0 ≤ j ∧ j < k) ∧ 0 < vAt b j) → LotsOk k (pre.foldl partStep L)
  | [], _, o, _ => o
  | b :: pre, _, o, h => parts_fold_ok pre (partStep_ok o (h b List.mem_cons_self)) fun c hc => h c (List.mem_cons_of_mem _ hc)
local macro_rules | `(tactic| walk_at "sz") => `(tactic| first | assumption | omega | (simp only [List.length_zip, List.length_map, List.length_range, List.length_zipIdx]; omega) | exact ⟨by omega, by omega⟩)
local macro_rules | `(tactic| walk_at "leg") => `(tactic| repeat (first | exact LeG.nil | apply LeG.keep | apply LeG.drop))
local macro_rules | `(tactic| walk_at "sd") => `(tactic| first | trivial | assumption | omega)
section
variable {P : Program} {w : World} {K : PySem.W.Frag} {mg : Str → Option Value} {base : Heap} {C : Addr}
abbrev sPs (C : Addr) := spF (spD (fun p : Nat × List (List Int) => [isBk C p.1 p.2]) (fun p => VB p.1 p.2) fun p => tvec (partsM p.1 p.2))
abbrev lots0 (k : Nat) : List (List Int) := (List.range k).map fun j : Nat => [((j : Nat) : Int)]
-- def parts book:B
theorem scParts : FnScope ["book", "lots", "kind", "batch", "tied", "lot"] ["book"] (defScope sParts) := ⟨rfl, rfl, rfl, by decide +kernel, rfl, by decide +kernel, by decide +kernel⟩
theorem ok_partsF (B : Bl mg) (T : BkF K C) (F : FnAt K mg "parts" sParts) : ClF P w K mg base CX0 "parts" sParts 1 ["book"] (sPs C) := by
  refine cl_DF F scParts (fun p => ⟨isBk_mono _ _ _, trivial⟩) (fun _ => rfl) (by decide) (fun f cdv A outer s H σ S R E p hr g hs hR => ?_)
  have vb : VB p.1 p.2 := hs
  have h5 := vb.le
  have h6 := vb.few
  refine gs_setLcA (i := 1) (f := fun j : Nat => [((j : Nat) : Int)]) (own := [("kind", 2)]) lint g rfl scParts.nd (w_range B.range (g_kinds T (g_v g (pv 0) rfl)) (by walk_at "sz") (by walk_at "sz")) (blkOk_by (N := ["book", "lots", "kind", "batch", "tied", "lot"]) (sc := defScope sParts) (by decide +kernel)) (fun _ _ _ _ _ => pg_name (i := 2) scParts.nd rfl (by first | exact Or.inl rfl | exact Or.inr rfl)) (by walk_at "sz") (it_name g (j := 2) (by decide) rfl (fun _ => isD_mono _) (fun a1 ha1 _ _ _ g1 => ⟨b_nil, fun hp1 _ _ _ _ _ => (r_lstI (ra_I (g_v g1 (pv 2) rfl) ra_nilI))⟩)) fun σ1 H1 g1 => ?_

  have ok : ∀ pre post, p.2 = pre ++ post → LotsOk p.1 (pre.foldl partStep (lots0 p.1)) := fun pre post e => parts_fold_ok pre (lots0_ok p.1) fun b hb => by
    have hb2 : b ∈ p.2 := by rw [e]; simp [hb]
    exact pos_at (vb.len b hb2) (vb.nn b hb2) (vb.ps b hb2)
  refine gs_for g1 PassesOwn.never rfl (w_tup (g_batches T (g_v g1 (pv 0) rfl))) (pg_name (i := 3) scParts.nd rfl (by first | exact Or.inl rfl | exact Or.inr rfl)) (fun pre => [some (isBk C p.1 p.2), some (isD (.list ((pre.foldl partStep (lots0 p.1)).map lint))), none, none, none, none]) (fun _ => []) (fun H' g' => ?_) (fun B' pre x post hx σ2 H2 v g2 hv => ?_) (fun σ2 H2 g2 => ?_)
  · simp only [Int.toNat_natCast] at g'
    exact g'.le (by walk_at "leg")
  · have hxB : x ∈ p.2 := by rw [hx]; simp
    have hxl := vb.len _ hxB
    have o := ok pre (x :: post) hx
    refine gst_name g2 rfl (isD_mono _) hv fun σ3 g3 => ?_
    generalize hL : pre.foldl partStep (lots0 p.1) = L at g3 o
    have hfew := o.few


    refine gs_set g3 (i := 4) scParts.nd (r_eq (d' := .list ((tiedM x L).map lint)) (r_lc (own := [("lot", 5)]) lint rfl scParts.nd (w_list (g_v g3 (pv 1) rfl)) (blkOk_by (N := ["book", "lots", "kind", "batch", "tied", "lot"]) (sc := defScope sParts) (by decide +kernel)) (fun _ _ _ _ _ => pg_name (i := 5) scParts.nd rfl (by first | exact Or.inl rfl | exact Or.inr rfl)) (by first | omega | (have := o.small ‹_›; omega)) (it_name g3 (j := 5) (by decide) rfl (fun _ => isD_mono _) (fun a2 ha2 _ _ _ g2 => ⟨b_one fun _ _ _ _ _ => (t_val (r_any rfl B.any (r_lcA (own := [("kind", 2)]) .bool rfl scParts.nd (w_list (g_v g2 (pv 5) rfl)) (blkOk_by (by kernel_rfl)) (fun _ _ _ _ _ => pg_name (i := 2) scParts.nd rfl (by first | exact Or.inl rfl | exact Or.inr rfl)) (by first | omega | (have := o.small ‹_›; omega)) (it_name g2 (j := 2) (by decide) rfl (fun _ => isD_mono _) (fun a3 ha3 _ _ _ g3 => ⟨b_nil, fun hp3 _ _ _ _ _ => (r_gt (r_ixT (g_v g3 (pv 3) rfl) (g_v g3 (pv 2) rfl) (by exact atI_v (by have := o.lt _ ‹_› _ ‹_›; omega))) r_int)⟩))))), fun hp2 _ _ _ _ _ => (g_v g2 (pv 5) rfl)⟩))) (by unfold tiedM; rw [map_self])) (isD_mono _) fun σ4 H4 g4 => ?_


    have hfl : (tiedM x L).flatten.length ≤ 100 := by
      have h8 := flatten_filter_perm (fun lot => (lot.map fun j => decide (0 < vAt x j)).any id) L
      have h7 := h8.length_eq
      have h9 := o.perm.length_eq
      rw [List.length_append] at h7
      rw [List.length_map, List.length_range] at h9
      have : tiedM x L = L.filter fun lot => (lot.map fun j => decide (0 < vAt x j)).any id := by unfold tiedM; rfl
      rw [this]; omega
    have htl : (tiedM x L).length ≤ 100 := by
      have : (tiedM x L).length ≤ L.length := by unfold tiedM; exact List.length_filter_le _ _
      omega
    have hfl2 := List.length_filter_le (fun lot => !decide (lot ∈ tiedM x L)) L

    refine gs_set g4 (i := 1) scParts.nd (r_eq (d' := .list ((partStep L x).map lint)) (r_catLe lint (r_lc (own := [("lot", 5)]) lint rfl scParts.nd (w_list (g_v g4 (pv 1) rfl)) (blkOk_by (N := ["book", "lots", "kind", "batch", "tied", "lot"]) (sc := defScope sParts) (by decide +kernel)) (fun _ _ _ _ _ => pg_name (i := 5) scParts.nd rfl (by first | exact Or.inl rfl | exact Or.inr rfl)) (by first | omega | (rw [map_self]; simp only [List.length_cons, List.length_nil]; omega)) (it_name g4 (j := 5) (by decide) rfl (fun _ => isD_mono _) (fun a4 ha4 _ _ _ g4 => ⟨b_one fun _ _ _ _ _ => (t_ninI (hu5 hr) (g_v g4 (pv 5) rfl) (g_v g4 (pv 4) rfl)), fun hp4 _ _ _ _ _ => (g_v g4 (pv 5) rfl)⟩))) (r_lstE lint [_] (ra_D (r_flat g4 (i := 5) (j := 2) (own := [("lot", 5), ("kind", 2)]) rfl scParts.nd (w_list (g_v g4 (pv 4) rfl)) (blkOk_by (N := ["book", "lots", "kind", "batch", "tied", "lot"]) (sc := defScope sParts) (by decide +kernel)) (by decide) (by decide) rfl rfl (fun _ _ _ _ _ => (pg_name (i := 5) scParts.nd rfl (by first | exact Or.inl rfl | exact Or.inr rfl))) (fun _ _ _ _ _ => (pg_name (i := 2) scParts.nd rfl (by first | exact Or.inl rfl | exact Or.inr rfl))) (fun _ _ _ _ _ => pv 5) (fun _ _ _ _ _ => pv 2) (by omega)) ra_nil)) (by first | omega | (rw [map_self]; simp only [List.length_cons, List.length_nil]; omega))) ?_) (isD_mono _) fun σ5 H5 g5 => sw_nil ?_
    · unfold partStep
      rw [map_self]
      simp
    simp only [List.foldl_append, List.foldl_cons, List.foldl_nil, hL]
    exact g5.le (by walk_at "leg")

  have o := ok p.2 [] (by simp)
  have hfew := o.few
  have h60 := vb.le2

  exact gs_ret g2 (r_eq (r_tupleL B.tuple (r_sortV B.sorted (r_lcA (own := [("lot", 5)]) vec rfl scParts.nd (w_list (g_v g2 (pv 1) rfl)) (blkOk_by (N := ["book", "lots", "kind", "batch", "tied", "lot"]) (sc := defScope sParts) (by decide +kernel)) (fun _ _ _ _ _ => pg_name (i := 5) scParts.nd rfl (by first | exact Or.inl rfl | exact Or.inr rfl)) (by first | omega | (have := o.small ‹_›; omega) | (intro k hk; obtain ⟨l, hl, rfl⟩ := List.mem_map.mp hk; intro z; have := (isort_perm l).length_eq; rw [z] at this; exact o.ne l hl (List.length_eq_zero_iff.mp this.symm))) (it_name g2 (j := 5) (by decide) rfl (fun _ => isD_mono _) (fun a5 ha5 _ _ _ g5 => ⟨b_nil, fun hp5 _ _ _ _ _ => (r_tupleL B.tuple (r_sortI B.sorted (g_v g5 (pv 5) rfl) (by first | omega | (have := o.small ‹_›; omega) | (intro k hk; obtain ⟨l, hl, rfl⟩ := List.mem_map.mp hk; intro z; have := (isort_perm l).length_eq; rw [z] at this; exact o.ne l hl (List.length_eq_zero_iff.mp this.symm)))))⟩))) (by first | omega | (have := o.small ‹_›; omega) | (intro k hk; obtain ⟨l, hl, rfl⟩ := List.mem_map.mp hk; intro z; have := (isort_perm l).length_eq; rw [z] at this; exact o.ne l hl (List.length_eq_zero_iff.mp this.symm))))) (by unfold partsM; rfl)) fun v H' g' r => fin_D g' (fun _ h => h) r hR

theorem ok_parts (B : Bl mg) (T : BkF K C) (F : FnAt K mg "parts" sParts) : Cl P w K mg base "parts" 1 ["book"] (sPs C) := (ok_partsF B T F).cl fun _ _ _ _ _ _ us hl => match us, hl with | [_], _ => rfl
end
end N34

set_option Elab.async false
set_option linter.all false
set_option maxRecDepth 100000
set_option maxHeartbeats 1000000
/-! covers_of -/
namespace N34
open PySem PySem.Spec PyProof.Rows L2
local macro_rules | `(tactic| walk_at "sz") => `(tactic| first | omega | (simp only [List.length_zip, List.length_map, List.length_range, List.length_zipIdx]; omega) | exact ⟨by omega, by omega⟩)
local macro_rules | `(tactic| walk_at "leg") => `(tactic| repeat (first | exact LeG.nil | apply LeG.keep | apply LeG.drop))
local macro_rules | `(tactic| walk_at "sd") => `(tactic| first | trivial | assumption | omega)
def enU : List Int → Unit → RV := fun _ _ => isD (.bool true)
def enV : List Int → List Int → RV := fun _ w => isD (vec w)
theorem enU_mono : MonoE enU := fun _ _ => isD_mono _
theorem enV_mono : MonoE enV := fun _ _ => isD_mono _
section
variable {P : Program} {w : World} {K : PySem.W.Frag} {mg : Str → Option Value} {base : Heap} {C : Addr}
abbrev cvS (p : Nat × List (List Int) × List Int) : Prop := VB p.1 p.2.1 ∧ p.2.2.length = p.1 ∧ (∀ x ∈ p.2.2, 0 ≤ x) ∧ 0 < p.2.2.sum ∧ p.2.2.sum ≤ 4
abbrev sCv (C : Addr) := spF (spD (bx C) cvS fun p => tvec (covers p.1 p.2.1 p.2.2))



-- def covers_of book:B wanted:v
theorem scCoversOf : FnScope ["book", "wanted", "found", "fresh", "later", "cover", "whole", "short", "kind", "at", "batch"] ["book", "wanted"] (defScope sCoversOf) := ⟨rfl, rfl, rfl, by decide +kernel, rfl, by decide +kernel, by decide +kernel⟩
theorem ok_coversOf (B : Bl mg) (T : BkF K C) (F : FnAt K mg "covers_of" sCoversOf) (c_nobody : Cl P w K mg base "nobody" 1 ["kinds"] sNo) (c_more : Cl P w K mg base "more" 1 ["one", "other"] sMo) (c_is_needless : Cl P w K mg base "is_needless" 2 ["book", "wanted", "cover", "whole"] (sNd C)) :
    Cl P w K mg base "covers_of" 3 ["book", "wanted"] (sCv C) := by
  refine cl_D F scCoversOf (fun p => ⟨isBk_mono _ _ _, isD_mono _, trivial⟩) (fun _ => rfl) (by decide) (fun _ _ _ _ _ _ us hl => match us, hl with | [_, _], _ => rfl) (fun f cdv A outer s H σ S R E p hr g hs hR => ?_)
  obtain ⟨vb, hl, hn, h0, h4⟩ : cvS p := hs
  have h5 := vb.le
  have h8 := vb.few
  have hpos := vb.pos
  have hw := pos_at hl hn h0

  refine sx_par2 (i := 2) (j := 3) rfl scCoversOf.nd (se_newD (en := enU) g enU_mono fun Fd H1 hF g1 => se_newD1 (en := enV) (kc := []) (bv := zer p.1) g1 (hu1 hr) enV_mono (fun S' M' H' gg => r_tupI (x := []) ra_nil) (fun S' M' H' gg => (r_callD c_nobody (hr.mono (by omega)) (p := _) rfl (ra_D (g_kinds T (g_v gg (pv 0) rfl)) ra_nil) (by first | omega | exact Nat.le_trans (Nat.le_of_eq hxl) h5))) fun fr H2 hfr g2 => ?_)

  have g3 := (g2.set (i := 2) (blt rfl) (isR_mono Fd) rfl).set (i := 3) (blt rfl) (isR_mono fr) rfl
  refine sw_while PassesOwn.never (fun n σ' H' => ∃ fr fresh fnd j, fr ∉ S ∧ fr ≠ Fd ∧ n + j = p.2.2.sum.toNat + 2 ∧ CvInv p.1 p.2.1 p.2.2 j fresh ∧ FInv fnd ∧ fresh.length ≤ 8 ^ j ∧ fnd.length ≤ j * 40000 ∧
    cvLoop p.1 p.2.1 p.2.2 n fresh fnd = cvLoop p.1 p.2.1 p.2.2 (p.2.2.sum.toNat + 2) [([], zer p.1)] [] ∧
    Sg (fr :: Fd :: S) [H] [some (isBk C p.1 p.2.1), some (isD (vec p.2.2)), some (isR Fd), some (isR fr), none, none, none, none, none, none, none] [(fr, dicC enV fresh), (Fd, dicC enU fnd)] σ' H')
    (m := p.2.2.sum.toNat + 2) ⟨fr, [([], zer p.1)], [], 0, fun z => hfr (List.mem_cons_of_mem _ z), fun z => hfr (by rw [z]; exact List.mem_cons_self), rfl, CvInv.zero hl hn, fun _ h => (nomatch h), Nat.le_refl 1, Nat.zero_le _, rfl, g3⟩ ?_
  rintro n σ4 H4 ⟨fr, fresh, fnd, j, hfr1, hfr2, hnj, inv, finv, hz1, hz2, hloop, g4⟩
  refine ⟨_, decide ((0 : Int) < (fresh.length : Nat)), t_gt (g_lenT g4 (j := 0) rfl B.len (g_v g4 (pv 3) rfl)) r_int, g4.al, fun hb H5 e5 => ?_, fun hb H5 e5 => ?_⟩
  · have hne : ¬ fresh.length = 0 := by have := of_decide_eq_true hb; omega
    have hj := inv.lvl hl hne
    have g5 := g4.next e5
    have h84 : 8 ^ j ≤ 8 ^ 4 := Nat.pow_le_pow_right (by decide) (by omega)
    refine gs_newD (i := 4) (en := enV) g5 scCoversOf.nd enV_mono fun la σ6 H6 hla g6 => ?_
    have g7 := g6
    refine gs_forItems g7 PassesOwn.never rfl enV_mono (j := 1) rfl (fun M' H' gg => (g_v gg (pv 3) rfl)) (pg_tup rfl (pgs_cons (pg_name (i := 5) scCoversOf.nd rfl (by first | exact Or.inl rfl | exact Or.inr rfl)) (pgs_cons (pg_name (i := 6) scCoversOf.nd rfl (by first | exact Or.inl rfl | exact Or.inr rfl)) pgs_nil))) (fun pre (_ : Unit) => [some (isBk C p.1 p.2.1), some (isD (vec p.2.2)), some (isR Fd), some (isR fr), some (isR la), none, none, none, none, none, none])
      (fun CC pre _ => [(la, dicC enV (pre.foldl (cvStep p.1 p.2.1 p.2.2) (fnd, [])).2), (fr, CC), (Fd, dicC enU (pre.foldl (cvStep p.1 p.2.1 p.2.2) (fnd, [])).1)]) (fun _ _ => True) (fun _ _ _ => rfl) (fun _ _ _ _ => rfl) (fun CC H' g' => ⟨(), trivial, g'.le (by walk_at "leg")⟩) (fun CC B' pre x post hx _ _ σ8 H8 v g8 hv => ?_) (fun _ _ σ8 H8 g8 => ?_)
    · have hxm : x ∈ fresh := by rw [hx]; simp
      have hst := cvStep_fold vb hl inv pre (fnd, []) (fun q hq => by rw [hx]; simp [hq]) CvInv.nil
      generalize hz : pre.foldl (cvStep p.1 p.2.1 p.2.2) (fnd, []) = st at g8 hst
      obtain ⟨inv1, len1, len2⟩ := hst
      have hpl : pre.length ≤ 4096 := by
        have := congrArg List.length hx
        rw [List.length_append] at this; omega
      have hxl := inv.wl x hxm
      refine gst_pair g8 rfl rfl (isD_mono _) (isD_mono _) hv fun σ9 g9 => ?_


      refine gs_setLcE (i := 7) (own := [("kind", 8)]) .int g9 rfl scCoversOf.nd (w_range B.range (g_kinds T (g_v g9 (pv 0) rfl)) (by walk_at "sz") (by walk_at "sz")) (blkOk_by (N := ["book", "wanted", "found", "fresh", "later", "cover", "whole", "short", "kind", "at", "batch"]) (sc := defScope sCoversOf) (by decide +kernel)) (fun _ _ _ _ _ => pg_name (i := 8) scCoversOf.nd rfl (by first | exact Or.inl rfl | exact Or.inr rfl)) (by walk_at "sz") (it_name g9 (j := 8) (by decide) rfl (fun _ => isD_mono _) (fun a1 ha1 _ _ _ g1 => ⟨b_one fun _ _ _ _ _ => (t_lt (r_ixT (g_v g1 (pv 6) rfl) (g_v g1 (pv 8) rfl) (by first | exact atI_v (by have := List.mem_range.mp ‹_›; omega))) (r_ixT (g_v g1 (pv 1) rfl) (g_v g1 (pv 8) rfl) (by first | exact atI_v (by have := List.mem_range.mp ‹_›; omega)))), fun hp1 _ _ _ _ _ => (g_v g1 (pv 8) rfl)⟩)) (d := lint (short p.1 x.2 p.2.2)) (by unfold short; rfl) fun σ10 H10 g10 => ?_


      have hz1' : (pre ++ [x]).foldl (cvStep p.1 p.2.1 p.2.2) (fnd, []) = cvStep p.1 p.2.1 p.2.2 st x := by rw [List.foldl_append, hz]; rfl
      simp only [hz1']
      by_cases hs0 : (short p.1 x.2 p.2.2).length = 0
      · have hcs : cvStep p.1 p.2.1 p.2.2 st x = (if needless p.2.1 p.2.2 x.1 x.2 then st.1 else pt st.1 x.1 (), st.2) := by unfold cvStep; rw [if_pos hs0]
        have hsd : VB p.1 p.2.1 ∧ p.2.2.length ≤ 100 ∧ x.2.length ≤ 100 ∧ x.1.length ≤ 100 ∧ ∀ i ∈ x.1, 0 ≤ i ∧ i < p.2.1.length := ⟨vb, by omega, by omega, by have := inv.len x hxm; omega, inv.idx x hxm⟩
        refine gs_if g10 (t_eq (b' := true) (t_eqI (r_lenL B.len (g_v g10 (pv 7) rfl)) r_int) (by simpa using hs0)) (fun _ H11 g11 => ?_) (fun h => nomatch h)

        refine gs_if1 g11 (t_not (t_val (r_callD c_is_needless (hr.mono (by omega)) (p := (_, _, _, _, _)) rfl (ra_cons (isBk_mono _ _ _) (g_v g11 (pv 0) rfl) (ra_D (g_v g11 (pv 1) rfl) (ra_D (g_v g11 (pv 5) rfl) (ra_D (g_v g11 (pv 6) rfl) ra_nil)))) (by exact hsd)))) (fun h H12 g12 => ?_) (fun h H12 g12 => ?_)


        · have hnd : needless p.2.1 p.2.2 x.1 x.2 = false := by simpa using h
          rw [hnd] at hcs
          have hl1 : st.1.length < 16000000 := by simp at len2; omega
          refine gs_dput g12 (en := enU) (bv := ()) (hu1 hr) enU_mono (e_of fun _ _ gg => r_bl) (fun _ _ gg => (g_v gg (pv 2) rfl)) (fun _ _ gg => (g_v gg (pv 5) rfl)) (j := 2) rfl (by omega) fun H13 g13 => sw_nil (sw_nil (sw_nil ⟨(), trivial, ?_⟩))
          simp only [hcs]
          exact g13.le (by walk_at "leg")
        · have hnd : needless p.2.1 p.2.2 x.1 x.2 = true := by simpa using h
          rw [hnd] at hcs
          refine sw_nil (sw_nil ⟨(), trivial, ?_⟩)
          simp only [hcs]
          exact g12.le (by walk_at "leg")

      · have hcs : cvStep p.1 p.2.1 p.2.2 st x = (st.1, p.2.1.zipIdx.foldl (cvIn x.1 x.2 (vAt (short p.1 x.2 p.2.2) 0)) st.2) := by unfold cvStep; rw [if_neg hs0]
        have hf := short_hd hs0
        obtain ⟨hf1, hf2⟩ := short_mem.mp hf
        refine gs_if g10 (t_eq (b' := false) (t_eqI (r_lenL B.len (g_v g10 (pv 7) rfl)) r_int) (by simpa using hs0)) (fun h => nomatch h) (fun _ H11 g11 => ?_)
        refine gs_for g11 PassesOwn.never rfl (w_enumT B.enumerate (g_batches T (g_v g11 (pv 0) rfl))) (pg_tup rfl (pgs_cons (pg_name (i := 9) scCoversOf.nd rfl (by first | exact Or.inl rfl | exact Or.inr rfl)) (pgs_cons (pg_name (i := 10) scCoversOf.nd rfl (by first | exact Or.inl rfl | exact Or.inr rfl)) pgs_nil))) (fun _ => [some (isBk C p.1 p.2.1), some (isD (vec p.2.2)), some (isR Fd), some (isR fr), some (isR la), some (isD (vec x.1)), some (isD (vec x.2)), some (isD (lint (short p.1 x.2 p.2.2))), none, none, none])
          (fun pre2 => [(la, dicC enV (pre2.foldl (cvIn x.1 x.2 (vAt (short p.1 x.2 p.2.2) 0)) st.2)), (fr, CC), (Fd, dicC enU st.1)]) (fun H' g' => g'.le (by walk_at "leg")) (fun B2 pre2 y post2 hy σ12 H12 v2 g12 hv2 => ?_) (fun σ12 H12 g12 => sw_nil (sw_nil ⟨(), trivial, ?_⟩))
        · refine gst_pair g12 rfl rfl (isD_mono _) (isD_mono _) hv2 fun σ13 g13 => ?_
          have hyB := zip_ok (show y ∈ p.2.1.zipIdx by rw [hy]; simp)
          have hyl := vb.len _ hyB.1
          have hcl := inv.len x hxm
          have hfl := cvIn_fold_len (cover := x.1) (whole := x.2) (f := vAt (short p.1 x.2 p.2.2) 0) pre2 st.2
          have hpl2 : pre2.length ≤ 8 := by
            have := congrArg List.length hy
            rw [List.length_append, List.length_zipIdx] at this; omega
          have hl2 : st.2.length ≤ 40000 := by simp at len1; omega
          simp only [List.foldl_append, List.foldl_cons, List.foldl_nil]
          generalize hw2 : pre2.foldl (cvIn x.1 x.2 (vAt (short p.1 x.2 p.2.2) 0)) st.2 = la2 at g13 hfl




          refine gs_if1 g13 (t_gt (r_ixT (g_v g13 (pv 10) rfl) (r_ixL (g_v g13 (pv 7) rfl) r_int (by first | exact atI_v ⟨Int.le_refl _, by omega⟩ | exact atI_v (by omega))) (by first | exact atI_v ⟨Int.le_refl _, by omega⟩ | exact atI_v (by omega))) r_int) (fun h H14 g14 => ?_) (fun h H14 g14 => ?_)
          · have hci : cvIn x.1 x.2 (vAt (short p.1 x.2 p.2.2) 0) la2 y = pt la2 (isort (x.1 ++ [(y.2 : Int)])) (addL x.2 y.1) := by unfold cvIn; rw [if_pos (of_decide_eq_true h)]
            refine gs_dput g14 (en := enV) (hu1 hr) enV_mono (e_of fun _ _ gg => (r_callD c_more (hr.mono (by omega)) (p := (_, _)) rfl (ra_D (g_v gg (pv 6) rfl) (ra_D (g_v gg (pv 10) rfl) ra_nil)) (by first | omega | exact Nat.le_trans (Nat.le_of_eq hxl) h5))) (fun _ _ gg => (g_v gg (pv 4) rfl)) (fun _ _ gg => (r_tupleL B.tuple (r_sortI B.sorted (r_lstI (ra_starV (g_v gg (pv 5) rfl) (ra_I (g_v gg (pv 9) rfl) ra_nilI)) (by first | omega | (simp only [List.length_append, List.length_cons, List.length_nil]; omega))) (by first | omega | (simp only [List.length_append, List.length_cons, List.length_nil]; omega))))) (j := 0) rfl (by omega) fun H15 g15 => sw_nil (sw_nil ?_)
            simp only [hci]
            exact g15.le (by walk_at "leg")
          · have hci : cvIn x.1 x.2 (vAt (short p.1 x.2 p.2.2) 0) la2 y = la2 := by unfold cvIn; rw [if_neg (of_decide_eq_false h)]
            refine sw_nil ?_
            simp only [hci]
            exact g14.le (by walk_at "leg")




        · simp only [hcs]
          exact g12.le (by walk_at "leg")
    · have hst := cvStep_fold vb hl inv fresh (fnd, []) (fun q hq => hq) CvInv.nil
      have hfi := cvStep_foundF inv hw fresh (fnd, []) (fun q hq => hq) finv
      obtain ⟨m, rfl⟩ : ∃ m, n = m + 1 := ⟨n - 1, by omega⟩
      rw [cvLoop_succ hne] at hloop
      generalize fresh.foldl (cvStep p.1 p.2.1 p.2.2) (fnd, []) = st at g8 hst hfi hloop
      obtain ⟨inv1, len1, len2⟩ := hst
      refine gs_set g8 (i := 3) scCoversOf.nd (g_v g8 (pv 4) rfl) (isR_mono _) fun σ9 H9 g9 => sw_nil ⟨m, Nat.lt_succ_self m, la, st.2, st.1, j + 1, fun z => hla (List.mem_cons_of_mem _ (List.mem_cons_of_mem _ z)), fun z => hla (by rw [z]; simp), by omega, inv1, hfi, ?_, ?_, hloop, ?_⟩
      · rw [Nat.pow_succ]; simp at len1; omega
      · simp at len2; omega
      · exact g9.wk (fun b hb => by simp only [List.mem_cons] at hb ⊢; rcases hb with h | h | h <;> simp [h]) (fun _ h => h) (by walk_at "leg") (fun q hq => by simp only [List.mem_cons, List.not_mem_nil, or_false] at hq; rcases hq with rfl | rfl <;> simp) (by simp; exact fun z => hla (by rw [z]; simp))
  · have hne : fresh = [] := by have := of_decide_eq_false hb; exact List.length_eq_zero_iff.mp (by omega)
    have g5 := g4.next e5
    subst hne
    rw [cvLoop_nil] at hloop
    exact gs_ret g5 (r_eq (r_tupleL B.tuple (g_sortT g5 (j := 1) rfl rfl B.sorted (g_v g5 (pv 2) rfl) finv)) (by rw [hloop]; unfold covers; rfl)) fun v H' g' r => fin_D g' (fun b hb => List.mem_cons_of_mem _ (List.mem_cons_of_mem _ hb)) r hR
end
end N34

set_option Elab.async false
set_option linter.all false
set_option maxRecDepth 100000
set_option maxHeartbeats 1000000
/-! clearing -/
namespace N34
open PySem PySem.Spec PyProof.Rows L2
abbrev oD : Option (List Int) → PyData
  | none => .none
  | some r => vec r
abbrev enO : List Int → Option (List Int) → RV := fun _ o => isD (oD o)
theorem enO_mono : MonoE enO := fun _ _ => isD_mono _
def clrStep (B : List (List Int)) (n : Nat) (x : List Int) (kn : Kn) (at_ : Int) : Kn :=
  if (lkN kn x).isNone then pt (clrM B n (subL x (bAt B at_)) kn) x ((lkN (clrM B n (subL x (bAt B at_)) kn) (subL x (bAt B at_))).map fun r => at_ :: r) else kn
def clr0 (x : List Int) (kn : Kn) : Kn := pt kn x (if x.sum = 0 then some [] else none)
theorem clrM_in {B : List (List Int)} {n : Nat} {x : List Int} {kn : Kn} (h : (lk kn x).isSome = true) : clrM B (n + 1) x kn = kn := by rw [clrM, if_pos h]
theorem clrM_out {B : List (List Int)} {n : Nat} {x : List Int} {kn : Kn} (h : ¬ (lk kn x).isSome = true) : clrM B (n + 1) x kn = (bwf B x).foldl (clrStep B n x) (clr0 x kn) := by
  rw [clrM, if_neg h]; rfl
theorem bwf_ok {B : List (List Int)} {x : List Int} {i : Int} (h : i ∈ bwf B x) : (0 ≤ i ∧ i < B.length) ∧ leB (bAt B i) x = true ∧ 0 < vAt (bAt B i) (vAt (kinds1 x) 0) := by
  unfold bwf at h
  split at h
  · cases h
  · obtain ⟨q, hq, rfl⟩ := List.mem_map.mp h
    obtain ⟨h1, h2⟩ := List.mem_filter.mp hq
    obtain ⟨h3, h4⟩ := zipIdx_mem h1
    have h5 := zipIdx_lt h1
    have e : bAt B (q.2 : Int) = q.1 := by unfold bAt; simp [h4]
    simp only [Bool.and_eq_true, decide_eq_true_eq] at h2
    rw [e]
    exact ⟨⟨by omega, by omega⟩, h2.2, h2.1⟩
theorem sub_sum : ∀ {x b : List Int}, x.length = b.length → (subL x b).sum = x.sum - b.sum
  | [], [], _ => by rw [subL_nil]; rfl
  | a :: x, c :: b, h => by
    rw [subL_cons, List.sum_cons, List.sum_cons, List.sum_cons, sub_sum (by simpa using h)]; omega
theorem sub_nn : ∀ {x b : List Int}, x.length = b.length → leB b x = true → ∀ i ∈ subL x b, 0 ≤ i
  | [], [], _, _ => by rw [subL_nil]; exact fun _ h => nomatch h
  | a :: x, c :: b, h, hl => by
    rw [leB_cons, Bool.and_eq_true, decide_eq_true_eq] at hl
    rw [subL_cons]
    intro i hi
    rcases List.mem_cons.mp hi with e | hi
    · omega
    · exact sub_nn (by simpa using h) hl.2 i hi
theorem sub_cr {k : Nat} {x b : List Int} (hx : CrOk k x) (hb : b.length = k) (h : leB b x = true) : CrOk k (subL x b) :=
  ⟨by rw [subL_len, hx.len, hb, Nat.min_self], sub_nn (hx.len.trans hb.symm) h⟩
structure KInv (k : Nat) (m : Kn) : Prop where
  bx : BxOk k 20 (m.map (·.1))
  run : ∀ p ∈ m, ∀ r, p.2 = some r → (r.length : Int) ≤ p.1.sum
theorem KInv.put {k : Nat} {m : Kn} {c : List Int} {b : Option (List Int)} (h : KInv k m) (hc : CrOk k c) (hs : c.sum ≤ 20) (hb : ∀ r, b = some r → (r.length : Int) ≤ c.sum) : KInv k (pt m c b) :=
  ⟨h.bx.put hc hs, fun p hp r e => (pt_mem hp).elim (fun q => h.run p q r e) fun q => by rw [q] at e ⊢; exact hb r e⟩
theorem KInv.few {k : Nat} {m : Kn} (h : KInv k m) (hk : k ≤ 4) : m.length ≤ 200000 := by
  have h1 : (m.map (·.1)).length ≤ 21 ^ k := h.bx.few
  rw [List.length_map] at h1
  have h2 : 21 ^ k ≤ 21 ^ 4 := Nat.pow_le_pow_right (by decide) hk
  omega
theorem KInv.lkN {k : Nat} {m : Kn} (h : KInv k m) {x r : List Int} (e : lkN m x = some r) : (r.length : Int) ≤ x.sum := by
  unfold N34.lkN at e
  cases q : lk m x with
  | none => rw [q] at e; cases e
  | some o => rw [q] at e; exact h.run (x, o) (lk_mem q) r e
/-- what clearing does to what is known -/
structure KStep (k : Nat) (m m' : Kn) : Prop where
  inv : KInv k m'
  le : ∀ c, (lk m c).isSome = true → (lk m' c).isSome = true
theorem pt_le {β : Type} {m : List (List Int × β)} {c : List Int} {b : β} : ∀ x, (lk m x).isSome = true → (lk (pt m c b) x).isSome = true := fun x h => by
  by_cases e : x = c
  · rw [e, lk_pt_same]; rfl
  · rw [lk_pt_ne e]; exact h
theorem clr0_step {k : Nat} {x : List Int} {m : Kn} (hx : CrOk k x) (hs : x.sum ≤ 20) (inv : KInv k m) : KStep k m (clr0 x m) ∧ (lk (clr0 x m) x).isSome = true := by
  refine ⟨⟨inv.put hx hs fun r e => ?_, pt_le⟩, by unfold clr0; rw [lk_pt_same]; rfl⟩
  split at e
  · cases e; simp; exact sum_nn hx.nn
  · cases e
theorem clr_step {k : Nat} {B : List (List Int)} (vb : VB k B) : ∀ (n : Nat) (x : List Int) (m : Kn), CrOk k x → x.sum ≤ 20 → x.sum < n → KInv k m → KStep k m (clrM B n x m) ∧ (lk (clrM B n x m) x).isSome = true
  | 0, x, m, hx, _, hn, _ => by have := sum_nn hx.nn; omega
  | n + 1, x, m, hx, hs, hn, inv => by
    by_cases h : (lk m x).isSome = true
    · rw [clrM_in h]; exact ⟨⟨inv, fun _ h => h⟩, h⟩
    · rw [clrM_out h]
      have gen : ∀ (l : List Int) (m' : Kn), (∀ i ∈ l, i ∈ bwf B x) → KStep k m m' → (lk m' x).isSome = true → KStep k m (l.foldl (clrStep B n x) m') ∧ (lk (l.foldl (clrStep B n x) m') x).isSome = true := by
        intro l
        induction l with
        | nil => intro m' _ h1 h2; exact ⟨h1, h2⟩
        | cons i l ih =>
          intro m' hl h1 h2
          rw [List.foldl_cons]
          obtain ⟨hi, hle, _⟩ := bwf_ok (hl i List.mem_cons_self)
          have hb := bAt_mem hi
          have hbl := vb.len _ hb
          have hc := sub_cr hx hbl hle
          have hss := sub_sum (hx.len.trans hbl.symm)
          have hbp := vb.ps _ hb
          obtain ⟨s1, s2⟩ := clr_step vb n (subL x (bAt B i)) m' hc (by omega) (by omega) h1.inv
          unfold clrStep
          split
          · refine ih _ (fun j hj => hl j (List.mem_cons_of_mem _ hj)) ⟨s1.inv.put hx hs fun r e => ?_, fun c hc' => pt_le c (s1.le c (h1.le c hc'))⟩ (by rw [lk_pt_same]; rfl)
            cases q : lkN (clrM B n (subL x (bAt B i)) m') (subL x (bAt B i)) with
            | none => rw [q] at e; cases e
            | some r' =>
              rw [q] at e
              have := s1.inv.lkN q
              have e' : i :: r' = r := Option.some.inj e
              rw [← e']; simp; omega
          · exact ih _ (fun j hj => hl j (List.mem_cons_of_mem _ hj)) h1 h2
      obtain ⟨s1, s2⟩ := clr0_step hx hs inv
      exact gen _ _ (fun _ h => h) s1 s2
theorem clr_fold {k : Nat} {B : List (List Int)} (vb : VB k B) {n : Nat} {x : List Int} {m : Kn} (hx : CrOk k x) (hs : x.sum ≤ 20) (hn : x.sum < (n : Int) + 1) (inv : KInv k m) : ∀ (l : List Int), (∀ i ∈ l, i ∈ bwf B x) → KStep k m (l.foldl (clrStep B n x) (clr0 x m)) ∧ (lk (l.foldl (clrStep B n x) (clr0 x m)) x).isSome = true := by
  intro l
  rw [← List.reverse_reverse l]
  generalize l.reverse = l
  induction l with
  | nil => intro _; exact clr0_step hx hs inv
  | cons i l ih =>
    intro hl
    obtain ⟨h1, h2⟩ := ih fun j hj => hl j (by simp at hj ⊢; exact .inl hj)
    rw [List.reverse_cons, List.foldl_append, List.foldl_cons, List.foldl_nil]
    generalize l.reverse.foldl (clrStep B n x) (clr0 x m) = m' at h1 h2
    obtain ⟨hi, hle, _⟩ := bwf_ok (hl i (by simp))
    have hb := bAt_mem hi
    have hbl := vb.len _ hb
    have hc := sub_cr hx hbl hle
    have hss := sub_sum (hx.len.trans hbl.symm)
    have hbp := vb.ps _ hb
    obtain ⟨s1, s2⟩ := clr_step vb n (subL x (bAt B i)) m' hc (by omega) (by omega) h1.inv
    unfold clrStep
    split
    · refine ⟨⟨s1.inv.put hx hs fun r e => ?_, fun c hc' => pt_le c (s1.le c (h1.le c hc'))⟩, by rw [lk_pt_same]; rfl⟩
      cases q : lkN (clrM B n (subL x (bAt B i)) m') (subL x (bAt B i)) with
      | none => rw [q] at e; cases e
      | some r' =>
        rw [q] at e
        have := s1.inv.lkN q
        have e' : i :: r' = r := Option.some.inj e
        rw [← e']; simp; omega
    · exact ⟨h1, h2⟩
local macro_rules | `(tactic| walk_at "sz") => `(tactic| first | omega | (simp only [List.length_zip, List.length_map, List.length_range, List.length_zipIdx]; omega) | exact ⟨by omega, by omega⟩)
local macro_rules | `(tactic| walk_at "leg") => `(tactic| repeat (first | exact LeG.nil | apply LeG.keep | apply LeG.drop))
local macro_rules | `(tactic| walk_at "sd") => `(tactic| first | trivial | assumption | omega)
section
variable {P : Program} {w : World} {K : PySem.W.Frag} {mg : Str → Option Value} {base : Heap} {C : Addr}
structure ClrP (C : Addr) (n : Nat) (vs : List V) (F : Hp) (M M' : Ce) (R : RV) (k : Nat) (B : List (List Int)) (x : List Int) (l : Addr) (m : Kn) : Prop where
  ar : AllR [isBk C k B, isD (vec x), isD .none, isR l] vs F
  vb : VB k B
  k4 : k ≤ 4
  cr : CrOk k x
  s20 : x.sum ≤ 20
  sn : x.sum < n
  inv : KInv k m
  eM : M = [(l, dicC enO m)]
  eM' : M' = [(l, dicC enO (clrM B n x m))]
  res : ∀ v F', Dt F' v (oD (lkN (clrM B n x m) x)) → R v F'
abbrev sClr (C : Addr) (n : Nat) := spE fun vs F M M' R => ∃ k B x l m, ClrP C n vs F M M' R k B x l m


-- def clearing book:B crowd:v without:n known:X
theorem scClearing : FnScope ["book", "crowd", "without", "known", "at", "rest"] ["book", "crowd", "without", "known"] (defScope sClearing) := ⟨rfl, rfl, rfl, by decide +kernel, rfl, by decide +kernel, by decide +kernel⟩
theorem ok_clearing (B : Bl mg) (T : BkF K C) (F : FnAt K mg "clearing" sClearing) (c_less : Cl P w K mg base "less" 1 ["one", "other"] sLe) (c_batches_with_first : Cl P w K mg base "batches_with_first" 2 ["book", "crowd"] (sBw C)) :
    ∀ n, Cl P w K mg base "clearing" (n + 3) ["book", "crowd", "without", "known"] (sClr C n)
  | 0 => cl_E F scClearing (fun vs F M M' R ⟨k, B, x, l, m, h⟩ => h.ar.length) (fun _ _ _ _ _ _ us hl => match us, hl with | [_, _, _, _], _ => rfl) fun f cdv A outer s H vs S M M' R E hr al ce ⟨k, B, x, l, m, h⟩ => by
    have := sum_nn h.cr.nn
    have := h.sn
    omega
  | n + 1 => by
    have c_clearing := ok_clearing B T F c_less c_batches_with_first n
    refine cl_E F scClearing (fun vs F M M' R ⟨k, B, x, l, m, h⟩ => h.ar.length) (fun _ _ _ _ _ _ us hl => match us, hl with | [_, _, _, _], _ => rfl) fun f cdv A outer s H vs S M M' R E hr al ce ⟨k, Bt, x, l, m, h⟩ => ?_
    obtain ⟨ha, vb, k4, hx, hs20, hsn, inv, rfl, rfl, hR⟩ := h
    have hxl := hx.len
    have hle := vb.le
    have g := Sg.startC (M := [(l, dicC enO m)]) (Rs := [isBk C k Bt, isD (vec x), isD .none, isR l]) (N := ["book", "crowd", "without", "known", "at", "rest"]) al ⟨isBk_mono _ _ _, isD_mono _, isD_mono _, isR_mono _, trivial⟩ ha (by rw [ha.length]; exact Nat.le_of_ble_eq_true rfl) ce
    refine gs_if1 g (t_ninT g (hu1 hr) (j := 0) rfl (g_v g (pv 1) rfl) (g_v g (pv 3) rfl)) (fun hb H1 g1 => ?_) (fun hb H1 g1 => ?_)
    · have hn : ¬ (lk m x).isSome = true := by simpa using hb
      have hfw := inv.few k4
      refine gs_dput g1 (hu1 hr) enO_mono (en := enO) (kc := x) (bv := if x.sum = 0 then some [] else none) (e_of fun _ _ gg => r_if (t_eqI (r_sumT rfl B.sum (g_v gg (pv 1) rfl)) r_int) (fun h => ?_) (fun h => ?_)) (fun _ _ gg => (g_v gg (pv 3) rfl)) (fun _ _ gg => (g_v gg (pv 1) rfl)) (j := 0) rfl (by omega) fun H2 g2 => ?_
      · rw [if_pos (of_decide_eq_true h)]; exact r_tupI (x := []) ra_nil
      · rw [if_neg (of_decide_eq_false h)]; exact r_non
      rw [clrM_out hn] at hR ⊢

      refine gs_for g2 PassesOwn.never rfl (w_list (r_callD c_batches_with_first (hr.mono (by omega)) (p := (_, _, _)) rfl (ra_cons (isBk_mono _ _ _) (g_v g2 (pv 0) rfl) (ra_D (g_v g2 (pv 1) rfl) ra_nil)) (by exact ⟨vb, hxl⟩))) (pg_name (i := 4) scClearing.nd rfl (by first | exact Or.inl rfl | exact Or.inr rfl)) (fun pre => [some (isBk C k Bt), some (isD (vec x)), some (isD .none), some (isR l), none, none]) (fun pre => [(l, dicC enO (pre.foldl (clrStep Bt n x) (clr0 x m)))]) (fun H' g' => g'.le (by walk_at "leg")) (fun B' pre i post hi σ3 H3 v g3 hv => ?_) (fun σ3 H3 g3 => ?_)

      · obtain ⟨st, hsome⟩ := clr_fold (n := n) vb hx hs20 (by omega) inv pre fun j hj => by rw [hi]; simp [hj]
        obtain ⟨hib, hil, _⟩ := bwf_ok (show i ∈ bwf Bt x by rw [hi]; simp)
        have hb := bAt_mem hib
        have hbl := vb.len _ hb
        have hbp := vb.ps _ hb
        have hc := sub_cr hx hbl hil
        have hss := sub_sum (hxl.trans hbl.symm)
        simp only [List.foldl_append, List.foldl_cons, List.foldl_nil]
        generalize hkn : pre.foldl (clrStep Bt n x) (clr0 x m) = kn at g3 st hsome
        refine gst_name g3 rfl (isD_mono _) hv fun σ4 g4 => ?_
        obtain ⟨bv, hbv⟩ := Option.isSome_iff_exists.mp hsome
        have hlk : lkN kn x = bv := by unfold lkN; rw [hbv]; rfl
        refine gs_if1 g4 (QT.pt (q_and (t_eq (b' := bv.isNone) (t_isN (d := oD bv) (g_getT g4 (hu1 hr) enO_mono (j := 0) rfl (g_v g4 (pv 3) rfl) (g_v g4 (pv 1) rfl) hbv)) (by cases bv <;> rfl)) (fun _ => q_one_and (t_eq (b' := true) (t_neD (d1 := .int i) (d2 := .none) (hu4 hr) (g_v g4 (pv 4) rfl) (g_v g4 (pv 2) rfl) rfl rfl) (by simp [PyData.eqv]))))) (fun hb2 H5 g5 => ?_) (fun hb2 H5 g5 => ?_)
        · have hno : bv.isNone = true := by simpa using hb2
          have est : clrStep Bt n x kn i = pt (clrM Bt n (subL x (bAt Bt i)) kn) x ((lkN (clrM Bt n (subL x (bAt Bt i)) kn) (subL x (bAt Bt i))).map fun r => i :: r) := by unfold clrStep; rw [hlk, if_pos hno]
          obtain ⟨s1, s2⟩ := clr_step vb n (subL x (bAt Bt i)) kn hc (by omega) (by omega) st.inv
          have hfw2 := s1.inv.few k4
          simp only [est]
          have hlen : ∀ r, lkN (clrM Bt n (subL x (bAt Bt i)) kn) (subL x (bAt Bt i)) = some r → r.length ≤ 100 := fun r e => by have := s1.inv.lkN e; omega
          generalize hx' : subL x (bAt Bt i) = x' at *


          refine gs_setG (i := 5) g5 scClearing.nd (e_callE (M1 := [(l, dicC enO kn)]) (M2 := []) (M1' := [(l, dicC enO (clrM Bt n x' kn))]) (Rz := isD (oD (lkN (clrM Bt n x' kn) x'))) c_clearing hr (ea_of fun _ _ gg => ra_cons (isBk_mono _ _ _) (g_v gg (pv 0) rfl) (ra_D (r_eq (d' := vec x') (r_callD c_less (hr.mono (by omega)) (p := (_, _)) rfl (ra_D (g_v gg (pv 1) rfl) (ra_D (r_ixT (g_batches T (g_v gg (pv 0) rfl)) (g_v gg (pv 4) rfl) (by exact atI_b hib)) ra_nil)) (by exact Nat.le_trans (Nat.le_of_eq hxl) hle)) (by rw [hx'])) (ra_D (g_v gg (pv 2) rfl) (ra_cons (isR_mono l) (g_v gg (pv 3) rfl) ra_nil)))) (fun vs F h => ⟨k, Bt, x', l, kn, h, vb, k4, hc, by omega, by omega, st.inv, rfl, rfl, fun _ _ h => h⟩) rfl) (isD_mono _) fun σ6 H6 g6 => ?_


          generalize clrM Bt n x' kn = kn2 at *
          generalize lkN kn2 x' = o at *


          refine gs_dput g6 (hu1 hr) enO_mono (en := enO) (kc := x) (bv := o.map fun r => i :: r) (e_of fun _ _ gg => r_if (t_isN (g_v gg (pv 5) rfl)) (fun h => ?_) (fun h => ?_)) (fun _ _ gg => (g_v gg (pv 3) rfl)) (fun _ _ gg => (g_v gg (pv 1) rfl)) (j := 0) rfl (by omega) fun H7 g7 => sw_nil (sw_nil ?_)
          · cases o with
            | none => exact r_non
            | some r => exact nomatch h
          · cases o with
            | none => exact nomatch h
            | some r => exact r_eq (r_tupI (ra_I (g_v gg (pv 4) rfl) (ra_starV (g_v gg (pv 5) rfl) ra_nilI)) (by simp; have := hlen _ rfl; omega)) (by rw [List.append_nil]; rfl)

          exact g7.le (by walk_at "leg")
        · have hno : ¬ bv.isNone = true := by rw [Bool.and_true] at hb2; rw [hb2]; decide
          have est : clrStep Bt n x kn i = kn := by unfold clrStep; rw [hlk, if_neg hno]
          simp only [est]
          exact sw_nil (g5.le (by walk_at "leg"))
      · obtain ⟨st, hsome⟩ := clr_fold (n := n) vb hx hs20 (by omega) inv (bwf Bt x) fun j hj => hj
        obtain ⟨bv, hbv⟩ := Option.isSome_iff_exists.mp hsome
        refine sw_nil ?_
        refine gs_ret g3 (g_getT g3 (hu1 hr) enO_mono (j := 0) rfl (g_v g3 (pv 3) rfl) (g_v g3 (pv 1) rfl) hbv) fun v H' g' r => fin_E g' (hR _ _ ?_)
        unfold lkN; rw [hbv]; exact r
    · have hn : (lk m x).isSome = true := by simpa using hb
      obtain ⟨bv, hbv⟩ := Option.isSome_iff_exists.mp hn
      rw [clrM_in hn] at hR ⊢
      refine gs_ret g1 (g_getT g1 (hu1 hr) enO_mono (j := 0) rfl (g_v g1 (pv 3) rfl) (g_v g1 (pv 1) rfl) hbv) fun v H' g' r => fin_E g' (hR _ _ ?_)
      unfold lkN; rw [hbv]; exact r
end
end N34

set_option Elab.async false
set_option linter.all false
set_option maxRecDepth 100000
/-! plain: covers are covers -/
namespace N34
open PySem
theorem addL_comm3 : ∀ z x y : List Int, addL (addL z x) y = addL (addL z y) x
  | [], x, y => by rw [addL_nil, addL_nil, addL_nil]
  | a :: z, [], y => by
    have e : ∀ w : List Int, addL w [] = [] := fun w => by unfold addL; simp
    rw [e, addL_nil, e]
  | a :: z, x, [] => by
    have e : ∀ w : List Int, addL w [] = [] := fun w => by unfold addL; simp
    rw [e, e, addL_nil]
  | a :: z, b :: x, c :: y => by
    rw [addL_cons, addL_cons, addL_cons, addL_cons, addL_comm3 z x y]
    congr 1; omega
theorem sumOf_perm {k : Nat} {B : List (List Int)} {a c : List Int} (h : a.Perm c) : sumOf k B a = sumOf k B c := by
  unfold sumOf
  exact h.foldl_eq' (fun x _ y _ z => addL_comm3 z _ _) _
theorem vAt_nil {i : Int} : vAt [] i = 0 := by unfold vAt; simp
theorem leB_iff : ∀ {a b : List Int}, a.length = b.length → (leB a b = true ↔ ∀ j : Nat, j < a.length → vAt a (j : Nat) ≤ vAt b (j : Nat))
  | [], [], _ => by rw [leB_nil]; simp
  | x :: a, y :: b, h => by
    rw [leB_cons, Bool.and_eq_true, decide_eq_true_eq, leB_iff (by simpa using h)]
    constructor
    · rintro ⟨h1, h2⟩ j hj
      cases j with
      | zero => unfold vAt; simpa using h1
      | succ j => have := h2 j (by simpa using hj); unfold vAt at this ⊢; simpa using this
    · intro h
      refine ⟨by have := h 0 (by simp); unfold vAt at this; simpa using this, fun j hj => ?_⟩
      have := h (j + 1) (by simpa using hj)
      unfold vAt at this ⊢; simpa using this
theorem short_nil {k : Nat} {whole wanted : List Int} (h1 : whole.length = k) (h2 : wanted.length = k) (h : (short k whole wanted).length = 0) : leB wanted whole = true := by
  rw [leB_iff (h2.trans h1.symm)]
  intro j hj
  have hn : ((j : Nat) : Int) ∉ short k whole wanted := by rw [List.length_eq_zero_iff.mp h]; simp
  have : ¬ vAt whole (j : Nat) < vAt wanted (j : Nat) := fun z => hn (short_mem.mpr ⟨⟨by omega, by omega⟩, z⟩)
  omega
structure CovOk (k : Nat) (B : List (List Int)) (wanted c : List Int) : Prop where
  idx : ∀ i ∈ c, 0 ≤ i ∧ i < B.length
  len : (c.length : Int) ≤ wanted.sum
  cov : leB wanted (sumOf k B c) = true
  nd : needless B wanted c (sumOf k B c) = false
structure CvG (k : Nat) (B : List (List Int)) (wanted : List Int) (j : Nat) (fresh : CvL) (found : CvF) : Prop where
  inv : CvInv k B wanted j fresh
  sm : ∀ p ∈ fresh, p.2 = sumOf k B p.1
  fd : ∀ p ∈ found, CovOk k B wanted p.1
theorem cvIn_sm {k : Nat} {B : List (List Int)} {cover whole : List Int} {f : Int} (hw : whole = sumOf k B cover) : ∀ (pre : List (List Int × Nat)) (later : CvL), (∀ q ∈ pre, B[q.2]? = some q.1) → (∀ p ∈ later, p.2 = sumOf k B p.1) → ∀ p ∈ pre.foldl (cvIn cover whole f) later, p.2 = sumOf k B p.1
  | [], _, _, h => h
  | q :: pre, later, hq, h => by
    refine cvIn_sm hw pre _ (fun r hr => hq r (List.mem_cons_of_mem _ hr)) fun p hp => ?_
    unfold cvIn at hp
    split at hp
    · rcases pt_mem hp with z | z
      · exact h p z
      · rw [z]
        show addL whole q.1 = sumOf k B (isort (cover ++ [(q.2 : Int)]))
        have e : bAt B (q.2 : Int) = q.1 := by unfold bAt; simp [hq q List.mem_cons_self]
        rw [sumOf_perm (isort_perm _), sumOf_snoc, e, hw]
    · exact h p hp
theorem cvStep_G {k : Nat} {B : List (List Int)} {wanted : List Int} {j : Nat} {m : CvL} (vb : VB k B) (hw : wanted.length = k) (hm : CvInv k B wanted j m) (hs : ∀ p ∈ m, p.2 = sumOf k B p.1) {p : List Int × List Int} (hp : p ∈ m) {st : CvF × CvL}
    (h1 : ∀ p ∈ st.2, p.2 = sumOf k B p.1) (h2 : ∀ p ∈ st.1, CovOk k B wanted p.1) : (∀ q ∈ (cvStep k B wanted st p).2, q.2 = sumOf k B q.1) ∧ ∀ q ∈ (cvStep k B wanted st p).1, CovOk k B wanted q.1 := by
  unfold cvStep
  split
  · rename_i h0
    refine ⟨h1, fun q hq => ?_⟩
    have hq' : q ∈ (if needless B wanted p.1 p.2 = true then st.1 else pt st.1 p.1 ()) := hq
    split at hq'
    · exact h2 q hq'
    · rename_i hnd
      rcases pt_mem hq' with z | z
      · exact h2 q z
      · rw [z]
        have e := hs p hp
        refine ⟨hm.idx p hp, ?_, ?_, ?_⟩
        · have := hm.gn p hp
          have h3 := gain_le (wanted := wanted) (w := p.2) ((hm.wl p hp).trans hw.symm)
          rw [hm.len p hp]; omega
        · rw [← e]; exact short_nil (hm.wl p hp) hw h0
        · rw [← e]; simpa using hnd
  · exact ⟨cvIn_sm (hs p hp) _ _ (fun q hq => (zipIdx_mem hq).2) h1, h2⟩
theorem cvFold_G {k : Nat} {B : List (List Int)} {wanted : List Int} {j : Nat} {m : CvL} (vb : VB k B) (hw : wanted.length = k) (hm : CvInv k B wanted j m) (hs : ∀ p ∈ m, p.2 = sumOf k B p.1) : ∀ (pre : CvL) (st : CvF × CvL), (∀ p ∈ pre, p ∈ m) →
    (∀ p ∈ st.2, p.2 = sumOf k B p.1) → (∀ p ∈ st.1, CovOk k B wanted p.1) → (∀ p ∈ (pre.foldl (cvStep k B wanted) st).2, p.2 = sumOf k B p.1) ∧ ∀ p ∈ (pre.foldl (cvStep k B wanted) st).1, CovOk k B wanted p.1
  | [], _, _, h1, h2 => ⟨h1, h2⟩
  | p :: pre, st, hp, h1, h2 => by
    obtain ⟨h3, h4⟩ := cvStep_G vb hw hm hs (hp p List.mem_cons_self) h1 h2
    exact cvFold_G vb hw hm hs pre _ (fun q hq => hp q (List.mem_cons_of_mem _ hq)) h3 h4
theorem CvG.step {k : Nat} {B : List (List Int)} {wanted : List Int} {j : Nat} {fresh : CvL} {found : CvF} (vb : VB k B) (hw : wanted.length = k) (h : CvG k B wanted j fresh found) :
    CvG k B wanted (j + 1) (fresh.foldl (cvStep k B wanted) (found, [])).2 (fresh.foldl (cvStep k B wanted) (found, [])).1 := by
  obtain ⟨h1, h2⟩ := cvFold_G vb hw h.inv h.sm fresh (found, []) (fun _ h => h) (fun _ h => nomatch h) h.fd
  exact ⟨(cvStep_fold vb hw h.inv fresh (found, []) (fun _ h => h) CvInv.nil).1, h1, h2⟩
/-- a property of the levels holds at the end -/
theorem cvLoop_end {k : Nat} {B : List (List Int)} {wanted : List Int} {I : Nat → CvL → CvF → Prop} (hi : ∀ j fresh found, I j fresh found → ¬ fresh.length = 0 → (j : Int) ≤ wanted.sum)
    (hs : ∀ j fresh found, I j fresh found → ¬ fresh.length = 0 → I (j + 1) (fresh.foldl (cvStep k B wanted) (found, [])).2 (fresh.foldl (cvStep k B wanted) (found, [])).1) :
    ∀ (n j : Nat) (fresh : CvL) (found : CvF), wanted.sum + 1 ≤ (n : Int) + j → I j fresh found → ∃ j', I j' [] (cvLoop k B wanted n fresh found)
  | 0, j, fresh, found, hn, h => by
    by_cases hf : fresh.length = 0
    · rw [List.length_eq_zero_iff.mp hf] at h ⊢; exact ⟨j, h⟩
    · have := hi j fresh found h hf; omega
  | n + 1, j, fresh, found, hn, h => by
    by_cases hf : fresh.length = 0
    · rw [List.length_eq_zero_iff.mp hf] at h ⊢; rw [cvLoop_nil]; exact ⟨j, h⟩
    · rw [cvLoop_succ hf]
      exact cvLoop_end hi hs n (j + 1) _ _ (by omega) (hs j fresh found h hf)
theorem CvG.zero {k : Nat} {B : List (List Int)} {wanted : List Int} (hw : wanted.length = k) (hn : ∀ x ∈ wanted, 0 ≤ x) : CvG k B wanted 0 [([], zer k)] [] :=
  ⟨CvInv.zero hw hn, fun p hp => by rw [List.mem_singleton.mp hp, sumOf_nil], fun _ h => nomatch h⟩
theorem vsort_mem {l : List (List Int)} {x : List Int} : x ∈ vsort l ↔ x ∈ l := (vsort_perm l).mem_iff
theorem covers_ok {k : Nat} {B : List (List Int)} {wanted : List Int} (vb : VB k B) (hw : wanted.length = k) (hn : ∀ x ∈ wanted, 0 ≤ x) {c : List Int} (h : c ∈ covers k B wanted) : CovOk k B wanted c := by
  unfold covers at h
  rw [vsort_mem] at h
  obtain ⟨p, hp, rfl⟩ := List.mem_map.mp h
  obtain ⟨_, g⟩ := cvLoop_end (k := k) (B := B) (wanted := wanted) (I := CvG k B wanted) (fun j f fd h hf => h.inv.lvl hw hf) (fun j f fd h _ => h.step vb hw) (wanted.sum.toNat + 2) 0 _ _ (by have := sum_nn hn; omega) (CvG.zero hw hn)
  exact g.fd p hp
theorem covers_few {k : Nat} {B : List (List Int)} {wanted : List Int} (vb : VB k B) (hw : wanted.length = k) (hn : ∀ x ∈ wanted, 0 ≤ x) (h4 : wanted.sum ≤ 4) : (covers k B wanted).length ≤ 4681 := by
  unfold covers
  rw [(vsort_perm _).length_eq, List.length_map]
  obtain ⟨j, g, h1, h2, h3⟩ := cvLoop_end (k := k) (B := B) (wanted := wanted) (I := fun j fresh found => CvInv k B wanted j fresh ∧ fresh.length ≤ 8 ^ j ∧ 7 * found.length + 1 ≤ 8 ^ j ∧ j ≤ 5) (fun j f fd h hf => h.1.lvl hw hf) (fun j f fd h hf => by
    obtain ⟨g, h1, h2, h3⟩ := h
    have hj := g.lvl hw hf
    obtain ⟨i1, i2, i3⟩ := cvStep_fold vb hw g f (fd, []) (fun _ h => h) CvInv.nil
    refine ⟨i1, ?_, ?_, by omega⟩
    · rw [Nat.pow_succ]; simp at i2; omega
    · rw [Nat.pow_succ]; simp at i3; omega) (wanted.sum.toNat + 2) 0 _ [] (by have := sum_nn hn; omega) ⟨CvInv.zero hw hn, Nat.le_refl 1, Nat.le_refl 1, Nat.zero_le _⟩
  have : 8 ^ j ≤ 8 ^ 5 := Nat.pow_le_pow_right (by decide) h3
  omega
theorem addL_sum : ∀ {a b : List Int}, a.length = b.length → (addL a b).sum = a.sum + b.sum
  | [], [], _ => by rw [addL_nil]; rfl
  | x :: a, y :: b, h => by rw [addL_cons, List.sum_cons, List.sum_cons, List.sum_cons, addL_sum (by simpa using h)]; omega
theorem addL_nn : ∀ {a b : List Int}, (∀ i ∈ a, 0 ≤ i) → (∀ i ∈ b, 0 ≤ i) → ∀ i ∈ addL a b, 0 ≤ i
  | [], b, _, _ => by rw [addL_nil]; exact fun _ h => nomatch h
  | x :: a, [], _, _ => by
    have e : addL (x :: a) [] = [] := by unfold addL; simp
    rw [e]; exact fun _ h => nomatch h
  | x :: a, y :: b, h1, h2 => by
    rw [addL_cons]
    intro i hi
    have := h1 x List.mem_cons_self
    have := h2 y List.mem_cons_self
    rcases List.mem_cons.mp hi with e | hi
    · omega
    · exact addL_nn (fun i hi => h1 i (List.mem_cons_of_mem _ hi)) (fun i hi => h2 i (List.mem_cons_of_mem _ hi)) i hi
theorem zer_sum {k : Nat} : (zer k).sum = 0 := by rw [zer_def]; simp
theorem zer_cr {k : Nat} : CrOk k (zer k) := ⟨repl_len, fun i hi => by rw [zer_def] at hi; rw [(List.mem_replicate.mp hi).2]; exact Int.le_refl _⟩
theorem sumOf_cr {k : Nat} {B : List (List Int)} (vb : VB k B) {c : List Int} (h : ∀ i ∈ c, 0 ≤ i ∧ i < B.length) : CrOk k (sumOf k B c) ∧ (sumOf k B c).sum ≤ 4 * c.length := by
  rw [← List.reverse_reverse c] at h ⊢
  generalize c.reverse = c at h ⊢
  induction c with
  | nil => rw [List.reverse_nil, sumOf_nil]; exact ⟨zer_cr, by rw [zer_sum]; simp⟩
  | cons i c ih =>
    rw [List.reverse_cons] at h ⊢
    obtain ⟨h1, h2⟩ := ih fun j hj => h j (List.mem_append_left _ hj)
    have hb := bAt_mem (h i (by simp))
    have hl := vb.len _ hb
    have hs := vb.sm _ hb
    rw [sumOf_snoc]
    refine ⟨⟨by rw [addL_len, h1.len, hl, Nat.min_self], addL_nn h1.nn (vb.nn _ hb)⟩, ?_⟩
    rw [addL_sum (h1.len.trans hl.symm), List.length_append]
    simp at h2 ⊢; omega
end N34

set_option Elab.async false
set_option linter.all false
set_option maxRecDepth 100000
set_option maxHeartbeats 1000000
/-! leaves -/
namespace N34
open PySem PySem.Spec PyProof.Rows L2
abbrev lvD (z : Int × List Int × Option (List Int)) : PyData := .tuple [.int z.1, vec z.2.1, oD z.2.2]
structure LvI (k : Nat) (B : List (List Int)) (n : Nat) (st : Lv × Kn) : Prop where
  inv : KInv k st.2
  few : st.1.length ≤ n
theorem lvIn_ok {k : Nat} {B : List (List Int)} (vb : VB k B) {n : Nat} {q : List Int × Nat} {st : Lv × Kn} {c : List Int} (hq : q.1 ∈ B) (hc : c ∈ covers k B q.1) (h : LvI k B n st) : LvI k B (n + 1) (lvIn k B q st c) := by
  have hl := vb.len _ hq
  have ok := covers_ok vb hl (vb.nn _ hq) hc
  obtain ⟨h1, h2⟩ := sumOf_cr vb ok.idx
  have h3 := ok.len
  have h4 := vb.sm _ hq
  have h5 := vb.ps _ hq
  have h6 := sub_cr h1 hl ok.cov
  have h7 := sub_sum (h1.len.trans hl.symm)
  unfold lvIn
  exact ⟨(clr_step vb 20 _ _ h6 (by omega) (by omega) h.inv).1.inv, by show (st.1 ++ [_]).length ≤ n + 1; rw [List.length_append]; have := h.few; simp; omega⟩
theorem lvIn_fold {k : Nat} {B : List (List Int)} (vb : VB k B) {q : List Int × Nat} (hq : q.1 ∈ B) : ∀ (pre : List (List Int)) (n : Nat) (st : Lv × Kn), (∀ c ∈ pre, c ∈ covers k B q.1) → LvI k B n st → LvI k B (n + pre.length) (pre.foldl (lvIn k B q) st)
  | [], _, _, _, h => h
  | c :: pre, n, st, hp, h => by
    have := lvIn_fold vb hq pre (n + 1) _ (fun d hd => hp d (List.mem_cons_of_mem _ hd)) (lvIn_ok vb hq (hp c List.mem_cons_self) h)
    rw [List.foldl_cons, List.length_cons, show n + (pre.length + 1) = n + 1 + pre.length by omega]
    exact this
theorem lvStep_fold {k : Nat} {B : List (List Int)} (vb : VB k B) : ∀ (pre : List (List Int × Nat)) (n : Nat) (st : Lv × Kn), (∀ q ∈ pre, q.1 ∈ B) → LvI k B n st → LvI k B (n + pre.length * 4681) (pre.foldl (lvStep k B) st)
  | [], n, _, _, h => by simpa using h
  | q :: pre, n, st, hp, h => by
    have hq := hp q List.mem_cons_self
    have h1 := lvIn_fold vb hq (covers k B q.1) n st (fun _ h => h) h
    have h2 := covers_few vb (vb.len _ hq) (vb.nn _ hq) (vb.sm _ hq)
    have h3 : LvI k B (n + 4681) (lvStep k B st q) := by unfold lvStep; exact ⟨h1.inv, by have := h1.few; omega⟩
    have := lvStep_fold vb pre (n + 4681) _ (fun d hd => hp d (List.mem_cons_of_mem _ hd)) h3
    rw [List.foldl_cons, List.length_cons, show n + (pre.length + 1) * 4681 = n + 4681 + pre.length * 4681 by omega]
    exact this
theorem leaves_few {k : Nat} {B : List (List Int)} (vb : VB k B) : (leavesM k B).length ≤ 100000 := by
  have h := lvStep_fold vb B.zipIdx 0 ([], []) (fun q hq => (zipIdx_mem hq).1) ⟨⟨BxOk.nil, fun _ h => nomatch h⟩, Nat.zero_le _⟩
  have := h.few
  have h8 := vb.few
  rw [List.length_zipIdx] at this
  unfold leavesM
  omega
local macro_rules | `(tactic| walk_at "sz") => `(tactic| first | omega | (simp only [List.length_zip, List.length_map, List.length_range, List.length_zipIdx]; omega) | exact ⟨by omega, by omega⟩)
local macro_rules | `(tactic| walk_at "leg") => `(tactic| repeat (first | exact LeG.nil | apply LeG.keep | apply LeG.drop))
local macro_rules | `(tactic| walk_at "sd") => `(tactic| first | trivial | assumption | omega)
section
variable {P : Program} {w : World} {K : PySem.W.Frag} {mg : Str → Option Value} {base : Heap} {C : Addr}
abbrev sLv (C : Addr) := spF (spD (fun p : Nat × List (List Int) => [isBk C p.1 p.2]) (fun p => VB p.1 p.2) fun p => .tuple ((leavesM p.1 p.2).map lvD))



-- def leaves book:B
theorem scLeaves : FnScope ["book", "found", "known", "at", "batch", "cover", "rest"] ["book"] (defScope sLeaves) := ⟨rfl, rfl, rfl, by decide +kernel, rfl, by decide +kernel, by decide +kernel⟩
theorem ok_leaves (B : Bl mg) (T : BkF K C) (F : FnAt K mg "leaves" sLeaves) (c_less : Cl P w K mg base "less" 1 ["one", "other"] sLe) (c_sum_of : Cl P w K mg base "sum_of" 2 ["book", "indexes"] (sSm C)) (c_covers_of : Cl P w K mg base "covers_of" 3 ["book", "wanted"] (sCv C))
    (c_clearing : Cl P w K mg base "clearing" 23 ["book", "crowd", "without", "known"] (sClr C 20)) : Cl P w K mg base "leaves" 24 ["book"] (sLv C) := by
  refine cl_D F scLeaves (fun p => ⟨isBk_mono _ _ _, trivial⟩) (fun _ => rfl) (by decide) (fun _ _ _ _ _ _ us hl => match us, hl with | [_], _ => rfl) (fun f cdv A outer s H σ S R E p hr g hs hR => ?_)
  have vb : VB p.1 p.2 := hs
  have h5 := vb.le
  have h8 := vb.few
  have k4 := vb.le4
  refine sx_par2 (i := 1) (j := 2) rfl scLeaves.nd (se_newL (ds := []) g ra_nil fun fo H1 hfo g1 => se_newD (en := enO) g1 enO_mono fun kn H2 hkn g2 => ?_)
  have g3 := (g2.set (i := 1) (blt rfl) (isR_mono fo) rfl).set (i := 2) (blt rfl) (isR_mono kn) rfl
  refine gs_for g3 PassesOwn.never rfl (w_enumT B.enumerate (g_batches T (g_v g3 (pv 0) rfl))) (pg_tup rfl (pgs_cons (pg_name (i := 3) scLeaves.nd rfl (by first | exact Or.inl rfl | exact Or.inr rfl)) (pgs_cons (pg_name (i := 4) scLeaves.nd rfl (by first | exact Or.inl rfl | exact Or.inr rfl)) pgs_nil))) (fun pre => [some (isBk C p.1 p.2), some (isR fo), some (isR kn), none, none, none, none]) (fun pre => [(kn, dicC enO (pre.foldl (lvStep p.1 p.2) ([], [])).2), (fo, lisC ((pre.foldl (lvStep p.1 p.2) ([], [])).1.map lvD))]) (fun H' g' => g'.le (by walk_at "leg")) (fun B' pre q post hq σ4 H4 v g4 hv => ?_) (fun σ4 H4 g4 => ?_)
  · have hqB := (zipIdx_mem (show q ∈ p.2.zipIdx by rw [hq]; simp)).1
    have hql := vb.len _ hqB
    have hst := lvStep_fold vb pre 0 ([], []) (fun r hr => (zipIdx_mem (show r ∈ p.2.zipIdx by rw [hq]; simp [hr])).1) ⟨⟨BxOk.nil, fun _ h => nomatch h⟩, Nat.zero_le _⟩
    have hpl : pre.length ≤ 8 := by
      have := congrArg List.length hq
      rw [List.length_append, List.length_zipIdx] at this; omega
    simp only [List.foldl_append, List.foldl_cons, List.foldl_nil]
    generalize pre.foldl (lvStep p.1 p.2) ([], []) = st at g4 hst
    have est : lvStep p.1 p.2 st q = (covers p.1 p.2 q.1).foldl (lvIn p.1 p.2 q) st := by unfold lvStep; rfl
    simp only [est]
    have hfew := covers_few vb hql (vb.nn _ hqB) (vb.sm _ hqB)
    refine gst_pair g4 rfl rfl (isD_mono _) (isD_mono _) hv fun σ5 g5 => ?_

    refine gs_for g5 PassesOwn.never rfl (w_tup (r_callD c_covers_of (hr.mono (by omega)) (p := (_, _, _)) rfl (ra_cons (isBk_mono _ _ _) (g_v g5 (pv 0) rfl) (ra_D (g_v g5 (pv 4) rfl) ra_nil)) (by exact ⟨vb, hql, vb.nn _ hqB, vb.ps _ hqB, vb.sm _ hqB⟩))) (pg_name (i := 5) scLeaves.nd rfl (by first | exact Or.inl rfl | exact Or.inr rfl)) (fun _ => [some (isBk C p.1 p.2), some (isR fo), some (isR kn), some (isD (.int (q.2 : Nat))), some (isD (vec q.1)), none, none]) (fun pre2 => [(kn, dicC enO (pre2.foldl (lvIn p.1 p.2 q) st).2), (fo, lisC ((pre2.foldl (lvIn p.1 p.2 q) st).1.map lvD))]) (fun H' g' => g'.le (by walk_at "leg")) (fun B2 pre2 c post2 hc σ6 H6 v2 g6 hv2 => ?_) (fun σ6 H6 g6 => sw_nil (g6.le (by walk_at "leg")))

    have hcm : c ∈ covers p.1 p.2 q.1 := by rw [hc]; simp
    have hst2 := lvIn_fold vb hqB pre2 _ st (fun d hd => by rw [hc]; simp [hd]) hst
    have hpl2 : pre2.length ≤ 4681 := by
      have hc' : covers p.1 p.2 q.1 = pre2 ++ c :: post2 := hc
      have := congrArg List.length hc'
      rw [List.length_append] at this; omega
    simp only [List.foldl_append, List.foldl_cons, List.foldl_nil]
    generalize pre2.foldl (lvIn p.1 p.2 q) st = st2 at g6 hst2
    have ok := covers_ok vb hql (vb.nn _ hqB) hcm
    obtain ⟨i1, i2⟩ := sumOf_cr vb ok.idx
    have i3 := ok.len
    have i4 := vb.sm _ hqB
    have i5 := vb.ps _ hqB
    have i6 := sub_cr i1 hql ok.cov
    have i7 := sub_sum (i1.len.trans hql.symm)
    have est2 : lvIn p.1 p.2 q st2 c = (st2.1 ++ [((q.2 : Int), c, lkN (clrM p.2 20 (subL (sumOf p.1 p.2 c) q.1) st2.2) (subL (sumOf p.1 p.2 c) q.1))], clrM p.2 20 (subL (sumOf p.1 p.2 c) q.1) st2.2) := by unfold lvIn; rfl
    have hst3 := lvIn_ok vb hqB hcm hst2
    rw [est2] at hst3
    simp only [est2]
    refine gst_name g6 rfl (isD_mono _) hv2 fun σ7 g7 => ?_

    refine gs_set g7 (i := 6) scLeaves.nd (r_callD c_less (hr.mono (by omega)) (p := (_, _)) rfl (ra_D (r_callD c_sum_of (hr.mono (by omega)) (p := (_, _, _)) rfl (ra_cons (isBk_mono _ _ _) (g_v g7 (pv 0) rfl) (ra_D (g_v g7 (pv 5) rfl) ra_nil)) (by first | exact ⟨vb, ok.idx, by dsimp only; omega⟩ | exact Nat.le_trans (Nat.le_of_eq i1.len) h5)) (ra_D (g_v g7 (pv 4) rfl) ra_nil)) (by first | exact ⟨vb, ok.idx, by dsimp only; omega⟩ | exact Nat.le_trans (Nat.le_of_eq i1.len) h5)) (isD_mono _) fun σ8 H8 g8 => ?_

    generalize subL (sumOf p.1 p.2 c) q.1 = x at *
    refine gs_exprG g8 (e_app (j := 1) (d := lvD ((q.2 : Int), c, lkN (clrM p.2 20 x st2.2) x)) (M1 := [(kn, dicC enO (clrM p.2 20 x st2.2)), (fo, lisC (st2.1.map lvD))]) (e_of fun _ _ gg => (g_v gg (pv 1) rfl)) rfl (e_tup (ds := [.int (q.2 : Int), vec c, oD (lkN (clrM p.2 20 x st2.2) x)]) (ea_cons (isD_mono _) (e_of fun _ _ gg => (g_v gg (pv 3) rfl)) (ea_cons (isD_mono _) (e_of fun _ _ gg => (g_v gg (pv 5) rfl)) (ea_cons (isD_mono _)
      (e_callE (M1 := [(kn, dicC enO st2.2)]) (M2 := [(fo, lisC (st2.1.map lvD))]) (M1' := [(kn, dicC enO (clrM p.2 20 x st2.2))]) (Rz := isD (oD (lkN (clrM p.2 20 x st2.2) x))) c_clearing hr (ea_of fun _ _ gg => ra_cons (isBk_mono _ _ _) (g_v gg (pv 0) rfl) (ra_D (g_v gg (pv 6) rfl) (ra_D r_non (ra_cons (isR_mono kn) (g_v gg (pv 2) rfl) ra_nil)))) (fun vs F h => ⟨p.1, p.2, x, kn, st2.2, h, vb, k4, i6, by omega, by omega, hst2.inv, rfl, rfl, fun _ _ h => h⟩) rfl) ea_nil)))) rfl ?_) fun H9 g9 => sw_nil ?_
    · rw [List.length_map]; have := hst2.few; omega
    rw [List.map_append]
    exact g9.le (by walk_at "leg")
  · have g5 := g4.freeze (S := kn :: S) (i := 1) (j := 1) (fun b hb => by simp only [List.mem_cons] at hb ⊢; rcases hb with h | h <;> simp [h]) (fun z => (List.mem_cons.mp z).elim (fun e => hkn (by rw [e]; exact List.mem_cons_self)) hfo) rfl rfl (fun p hp => by simp only [List.eraseIdx, List.mem_cons, List.not_mem_nil, or_false] at hp; rw [hp]; exact List.mem_cons_self)
    exact gs_ret g5 (r_eq (r_tupleL B.tuple (g_v g5 (pv 1) rfl)) (by unfold leavesM; rfl)) fun v H' g' r => fin_D g' (fun b hb => List.mem_cons_of_mem _ hb) r hR
end
end N34

set_option Elab.async false
set_option linter.all false
set_option maxRecDepth 100000
set_option maxHeartbeats 1000000
/-! found, all_leaves, is_safe -/
namespace N34
open PySem PySem.Spec PyProof.Rows L2
abbrev anyK : CR := fun o _ => ∃ kvs, o = .dK kvs
theorem anyK_mono : MonoC anyK := ⟨fun _ _ _ _ h => h, fun o _ ⟨kvs, h⟩ => by rw [h]; exact .dK⟩
section
variable {X : Cx} {S : List Addr} {Bs : List Hp} {Γ : Ga} {M M' M1 M2 : Ce} {R Ra Rb Rz : RV} {a b e c o i elt tg iter value : Expr} {es ifs : List Expr} {pos pos' p : Pos} {d : PyData} {σ : L2.St} {H : Hp} {α β : Type} {scope : Scope} {l C f dd : Addr} {k : Nat} {Bt : List (List Int)} {j n : Nat} {kvs : List (Key × V)} {x y : Str} {D : Ends} {rest : List Stmt}
theorem g_found (T : BkF X.K C) (ha : PE X e (tR S σ H (isB C k Bt dd))) (hb : attributeBase e "_found" X.env (eval e X.env) = eval e X.env := by rfl) : PE X (.Attribute e "_found" pos) (tR S σ H (isR dd)) :=
  PE_imp (pe_fld ha hb) fun σ H Q ⟨q, ex, al, kk⟩ => ⟨q, ex, al, fun x H1 e1 ⟨a, dx, t, ea, h1, h2⟩ => ⟨a, C, dx, _, .ref dd, ea, hid_le _ _ h1, T.cls, T.nf, rfl, kk _ _ e1 rfl⟩⟩
theorem t_ninK (g : Sg S Bs Γ M σ H) (hu : X.A.units + 1 < cLine) (hM : M[j]? = some (l, eqC (.dK kvs))) (ha : PE X a (tR S σ H (isD (.str x)))) (hb : PE X b (tR S σ H (isR l))) (hk : behindInMarks .NotIn b = false := by rfl) :
    PT X (.Compare a [.NotIn] [b] pos) (tRT S σ H (!(valV kvs (Sum.inr x)).isSome)) :=
  PT_imp (pt_cmp (pc_dnotin hu ha hb) hk) fun σ' H' Q ⟨q, ex, al, k⟩ => ⟨q, ex, al, fun y H1 e1 ry => ⟨q, ex.trans e1, al.ex e1, fun x' H2 e2 rx => by
    obtain rfl : x' = .ref l := rx
    obtain rfl := ry.strI
    obtain ⟨hS, _, _, o3, ho3, rfl⟩ := g.ce (l, eqC (.dK kvs)) (List.mem_of_getElem? hM)
    have h2 := ((ex.trans e1).trans e2) _ _ ho3
    exact ⟨l, _, rfl, DGet.k (k := Sum.inr x) h2, _, rfl, k _ (e1.trans e2)⟩⟩⟩
theorem gs_dputK (g : Sg S Bs Γ M σ H) (hu : X.A.units + 1 < cLine) (hv : PE X value (tR S σ H R)) (m : Mono R) (ho : ∀ H, Sg S Bs Γ M σ H → PE X o (tR S σ H (isR l))) (hi : ∀ H, Sg S Bs Γ M σ H → PE X i (tR S σ H (isD (.str x)))) (hM : M[j]? = some (l, eqC (.dK kvs))) (hl : kvs.length < 16000000)
    (k : ∀ v H', Sg S Bs Γ (M.set j (l, eqC (.dK (putK kvs (Sum.inr x) v)))) σ H' → R v (hid S H') → SW X D rest σ H') (hs : swapsWith value (some (.Subscript o i pos')) pos.line X.env = pure false := by rfl) : SW X D (.Assign [.Subscript o i pos'] value pos :: rest) σ H :=
  sw_cons (ps_dput hu pe_SE pe_SE pe_SE hs) (se_g g hv fun v H1 g1 e1 rv => se_g g1 (ho H1 g1) fun x' H2 g2 e2 rx => se_g g2 (hi H2 g2) fun y H3 g3 e3 ry => by
    obtain rfl : x' = .ref l := rx
    obtain rfl := ry.strI
    obtain ⟨hS, _, _, o3, ho3, rfl⟩ := g3.ce (l, eqC (.dK kvs)) (List.mem_of_getElem? hM)
    have g4 := g3.put (o := .dK (putK kvs (Sum.inr x) v)) hM (C' := eqC (.dK (putK kvs (Sum.inr x) v))) (eqC_mono .dK) rfl
    exact ⟨l, _, rfl, DPut.k (k := Sum.inr x) ho3 (szB hl), k v _ g4 (by rw [hid_upd hS]; exact m _ _ _ ((hid_ex e2).trans (hid_ex e3)) rv)⟩)
theorem g_callL {pre : List V → Hp → RV → Prop} {fd : FuncData} {ps : List Str} {Rs : List RV} (F : FnOk X.prog X.w X.K X.mg X.base CX0 n f fd ps (spF pre)) (hr : Room n X.A) (hk : PySem.W.keepIn X.K (.ref f) = true) (hb : Binds X.K fd ps []) (g : Sg S Bs Γ M σ H) (hN : X.N[j]? = some x) (hv : Vis X.env.scope x)
    (ha : PA X (e :: es) (tRA S σ H Rs)) (h : ∀ vs F, AllR Rs vs F → pre vs F Rz) (hG : Γ[j]? = some (some (isR f)) := by rfl) (hdb : (x == ("__debug__" : Str)) = false := by decide) (hcd : (x == ("__classdict__" : Str)) = false := by decide)
    (he : starEach (e :: es) X.env = (false, eval e X.env) :: starEach es X.env := by rfl) (hpl : (backTo pos (starEach es X.env)).any (·.1) = false := by rfl) : PE X (.Call (.Name x p) (e :: es) [] pos) (tR S σ H Rz) := by
  refine PE_imp (pe_callL (i := j) F hr hN hv hk hb .nil pass0 ha hdb hcd he hpl) fun σ' H' Q ⟨q, ex, al, k⟩ => ⟨?_, q, ex, al, fun vs H1 e1 ra => ?_⟩
  · obtain ⟨_, v, h1, h2⟩ := g.sl j _ hG
    obtain rfl : v = .ref f := h2
    rw [q]; exact h1
  · show spF pre (vs ++ []) H1 Q E0
    rw [List.append_nil]
    exact ⟨S, Rz, al.ex e1, h _ _ ra, fun v H' e2 r => k v H' (e1.trans e2) r⟩
theorem e_lcA {xs : List α} {enc : α → RV} {g : TG} {own : List (Str × Nat)} {f : α → β} (en : β → PyData) (hc : X.calm = true) (hN : X.N.Nodup) (hi : PI X tg iter (tWG S Bs Γ M M' xs enc)) (ok : BlkOk X.N X.env.scope scope own)
    (hg : Blk X scope fun Y => PG Y tg g) (hl : xs.length ≤ 100000) (h : ∀ σ H, Sg S Bs Γ M' σ H → ∀ a ∈ xs, ∀ S' H' v, Up S H S' H' → enc a v (hid S' H') → Item X scope elt ifs g (own.map (·.2)) (L2.wipe σ (own.map (·.2))) S' H' v true (en (f a))) (hs : ∀ x, foldedSetIterable iter X.env x = pure x := by intro _; rfl) :
    PE X (.ListComp elt [⟨tg, iter, ifs, 0⟩] scope pos) (tG S Bs Γ M M' (isD (.list ((xs.map f).map en)))) := by
  have q := e_lc (p := fun _ => true) (f := f) (pos := pos) en hc hN hi ok hg hl h hs
  rw [List.filter_eq_self.mpr (fun _ _ => rfl)] at q
  exact q
end
section
variable {P : Program} {w : World} {K : PySem.W.Frag} {mg : Str → Option Value} {base : Heap} {C fl ff : Addr}
structure FndP (C fl : Addr) (vs : List V) (F : Hp) (M M' : Ce) (R : RV) (k : Nat) (B : List (List Int)) (d : Addr) : Prop where
  ar : AllR [isB C k B d, isD (.str "leaves"), isR fl] vs F
  vb : VB k B
  eM : M = [(d, eqC (.dK []))]
  eM' : M' = [(d, anyK)]
  res : ∀ v F', Dt F' v (.tuple ((leavesM k B).map lvD)) → R v F'
abbrev sFd (C fl : Addr) := spE fun vs F M M' R => ∃ k B d, FndP C fl vs F M M' R k B d
theorem Sg.anyK {S : List Addr} {Bs : List Hp} {Γ : Ga} {d : Addr} {kvs : List (Key × V)} {σ : L2.St} {H : Hp} (g : Sg S Bs Γ [(d, eqC (.dK kvs))] σ H) : Sg S Bs Γ [(d, anyK)] σ H :=
  ⟨g.al, g.ex, g.len, g.sl, fun p hp => by
    obtain ⟨h1, h2, _, o, h3, h4⟩ := g.ce (d, eqC (.dK kvs)) List.mem_cons_self
    rw [List.mem_singleton.mp hp]
    exact ⟨h1, h2, anyK_mono, o, h3, kvs, h4⟩, g.nd⟩
-- def Book.found self:X word:s work:X
theorem scBookFound : FnScope ["self", "word", "work"] ["self", "word", "work"] (defScope sBookFound) := ⟨rfl, rfl, rfl, by decide +kernel, rfl, by decide +kernel, by decide +kernel⟩
theorem ok_found (B : Bl mg) (T : BkF K C) (F : FnM K "found" "Book.found" sBookFound ff) (c_leaves : ∃ fd, FnOk P w K mg base CX0 24 fl fd ["book"] (sLv C) ∧ PySem.W.keepIn K (.ref fl) = true ∧ Binds K fd ["book"] []) :
    ∃ fd, FnOk P w K mg base CX0 25 ff fd ["self", "word", "work"] (sFd C fl) ∧ Binds K fd ["self", "word", "work"] [] := by
  obtain ⟨fd, Fd⟩ := F.ex
  refine ⟨fd, Fd.ok scBookFound (fun vs H Q E ⟨S, M, M', R, al, c, ⟨k, B, d, h⟩, _⟩ => h.ar.length) (fun cdv A outer s H vs Q E hr h => ?_), Fd.bindsN fun _ _ _ _ _ _ us hl => match us, hl with | [_, _, _], _ => rfl⟩
  obtain ⟨S, M, M', R, al, ce, ⟨k, Bt, d, ⟨ha, vb, rfl, rfl, hR⟩⟩, _, q⟩ := h
  obtain ⟨fdl, Fl, kpl, bdl⟩ := c_leaves
  refine ⟨_, PSs.nox pss_SW, ?_⟩
  have g := Sg.startC (M := [(d, eqC (.dK []))]) (Rs := [isB C k Bt d, isD (.str "leaves"), isR fl]) (N := ["self", "word", "work"]) al ⟨isB_mono _ _ _ _, isD_mono _, isR_mono _, trivial⟩ ha (by rw [ha.length]; exact Nat.le_of_ble_eq_true rfl) ce
  refine gs_if1 g (t_eq (b' := true) (t_ninK g (hu1 hr) (j := 0) rfl (g_v g (pv 1) rfl) (g_found T (g_v g (pv 0) rfl))) rfl) (fun _ H1 g1 => ?_) (fun h => nomatch h)
  refine gs_dputK g1 (hu1 hr) (R := isD (.tuple ((leavesM k Bt).map lvD))) (g_callL (j := 2) Fl hr kpl bdl g1 rfl (.inl rfl) (ra_cons (isBk_mono C k Bt) (PE_wk (g_v g1 (pv 0) rfl) fun v F h => ⟨d, h⟩) ra_nil) (fun vs F h => ⟨(k, Bt), h, vb, fun _ _ h => h⟩)) (isD_mono _)
    (fun H gg => g_found T (g_v gg (pv 0) rfl)) (fun H gg => (g_v gg (pv 1) rfl)) (j := 0) rfl (by decide) fun v H2 g2 rv => sw_nil ?_
  refine sx_ret (se_of (pe_dget (hu1 hr) pe_SE pe_SE (by exact fun _ _ => rfl)) (se_g g2 (g_found T (g_v g2 (pv 0) rfl)) fun x H3 g3 e3 rx => se_g g3 (g_v g3 (pv 1) rfl) fun y H4 g4 e4 ry => ?_))
  obtain rfl : x = .ref d := rx
  obtain rfl := ry.strI
  obtain ⟨_, _, _, o, ho, rfl⟩ := g4.ce (d, eqC (.dK (putK [] (Sum.inr "leaves") v))) List.mem_cons_self
  refine ⟨d, v, rfl, DGet.k (k := Sum.inr "leaves") ho, ?_⟩
  have z := fin_E (M := [(d, eqC (.dK []))]) g4.anyK (hR v (hid S H4) ((rv.mono (hid_ex e3)).mono (hid_ex e4)))
  exact q _ _ z.ex z.ce z.r
structure AlP (C : Addr) (res : Nat → List (List Int) → PyData) (vs : List V) (F : Hp) (M M' : Ce) (R : RV) (k : Nat) (B : List (List Int)) (d : Addr) : Prop where
  ar : AllR [isB C k B d] vs F
  vb : VB k B
  eM : M = [(d, eqC (.dK []))]
  eM' : M' = [(d, anyK)]
  res : ∀ v F', Dt F' v (res k B) → R v F'
abbrev sAl (C : Addr) (res : Nat → List (List Int) → PyData) := spE fun vs F M M' R => ∃ k B d, AlP C res vs F M M' R k B d
abbrev lvRes (k : Nat) (B : List (List Int)) : PyData := .tuple ((leavesM k B).map lvD)
-- def all_leaves book:X
theorem scAllLeaves : FnScope ["book"] ["book"] (defScope sAllLeaves) := ⟨rfl, rfl, rfl, by decide +kernel, rfl, by decide +kernel, by decide +kernel⟩
theorem ok_allLeaves (B : Bl mg) (T : BkF K C) (F : FnAt K mg "all_leaves" sAllLeaves) (hm : Meth K C "found" ff) (hl : mg "leaves" = some (.ref fl)) (c_found : ∃ fd, FnOk P w K mg base CX0 25 ff fd ["self", "word", "work"] (sFd C fl) ∧ Binds K fd ["self", "word", "work"] []) :
    Cl P w K mg base "all_leaves" 26 ["book"] (sAl C lvRes) := by
  refine cl_E F scAllLeaves (fun vs F M M' R ⟨k, B, d, h⟩ => h.ar.length) (fun _ _ _ _ _ _ us hl => match us, hl with | [_], _ => rfl) fun f cdv A outer s H vs S M M' R E hr al ce ⟨k, Bt, d, h⟩ => ?_
  obtain ⟨ha, vb, rfl, rfl, hR⟩ := h
  obtain ⟨fdf, Ff, bdf⟩ := c_found
  have g := Sg.startC (M := [(d, eqC (.dK []))]) (Rs := [isB C k Bt d]) (N := ["book"]) al ⟨isB_mono _ _ _ _, trivial⟩ ha (by rw [ha.length]; exact Nat.le_of_ble_eq_true rfl) ce
  refine sx_ret (se_of (pe_meth pe_SE T.cls hm Ff hr bdf .nil pass0 (ra_D (S := S) (σ0 := L2.start ["book"] vs) (H0 := H) r_str (ra_cons (isR_mono fl) (PE_imp (pe_glob rfl hl (show RelV (.ref fl) (.ref fl) from rfl)) fun σ H Q ⟨_, _, _, k⟩ => k _ H (Ex.refl _) rfl) ra_nil))) (se_g g (g_v g (pv 0) rfl) fun x H1 g1 e1 rx => ?_))
  have rx' := rx
  obtain ⟨a, dx, t, rfl, h1, h2⟩ := rx
  refine ⟨a, dx, _, rfl, hid_le _ _ h1, rfl, rfl, e1, g1.al, fun vs2 H2 e2 ra => ?_⟩
  have g2 := g1.next e2
  show sFd C fl (.ref a :: (vs2 ++ [])) H2 _ _
  rw [List.append_nil]
  refine ⟨S, [(d, eqC (.dK []))], [(d, anyK)], R, g2.al, ⟨fun p hp => have q := g2.ce p hp; ⟨q.1, q.2.2⟩, g2.nd⟩, ⟨k, Bt, d, ⟨_, _, rfl, isB_mono _ _ _ _ _ _ _ (hid_ex e2) rx', ra⟩, vb, rfl, rfl, hR⟩, rfl, fun v H' e3 c r => ⟨?_, c, r⟩⟩
  have hx : Ex H H2 := e1.trans e2
  exact fun b o hb => e3 b o (by
    obtain ⟨n, hb⟩ := hid_some hb
    rw [hid_out n]; exact hx b o hb)
abbrev sfRes (k : Nat) (B : List (List Int)) : PyData := .bool (safeM k B)
-- def is_safe book:X
theorem scIsSafe : FnScope ["book", "at", "cover", "run"] ["book"] (defScope sIsSafe) := ⟨rfl, rfl, rfl, by decide +kernel, rfl, by decide +kernel, by decide +kernel⟩
theorem ok_isSafe (B : Bl mg) (T : BkF K C) (F : FnAt K mg "is_safe" sIsSafe) (c_all_leaves : Cl P w K mg base "all_leaves" 26 ["book"] (sAl C lvRes)) : Cl P w K mg base "is_safe" 27 ["book"] (sAl C sfRes) := by
  refine cl_E F scIsSafe (fun vs F M M' R ⟨k, B, d, h⟩ => h.ar.length) (fun _ _ _ _ _ _ us hl => match us, hl with | [_], _ => rfl) fun f cdv A outer s H vs S M M' R E hr al ce ⟨k, Bt, d, h⟩ => ?_
  obtain ⟨ha, vb, rfl, rfl, hR⟩ := h
  have g := Sg.startC (M := [(d, eqC (.dK []))]) (Rs := [isB C k Bt d]) (N := ["book", "at", "cover", "run"]) al ⟨isB_mono _ _ _ _, trivial⟩ ha (by rw [ha.length]; exact Nat.le_of_ble_eq_true rfl) ce
  have hlen := leaves_few vb
  refine gs_retG g (M' := [(d, anyK)]) (R := isD (.bool (safeM k Bt))) (e_callB (cr_all rfl) B.all (by decide +kernel) (ea_cons (R := isD (.list (((leavesM k Bt).map fun z => z.2.2.isSome).map PyData.bool))) (isD_mono _) ?_ ea_nil)
    (fun vs H _ h Q k => by
      obtain ⟨v, ws, rfl, h1, h2⟩ := h
      cases h2
      obtain ⟨a, xs, rfl, h3, h4⟩ := h1.lstI
      rw [h4.bls] at h3
      exact ⟨a, _, rfl, SqL.of (hid_le _ _ h3), k _ H (Ex.refl _) (by unfold safeM; exact .bl _)⟩)) fun v H' g' r => fin_E g' (hR _ _ r)
  refine e_lcA (own := [("at", 1), ("cover", 2), ("run", 3)]) (g := gTup K 3 (gCons (gName 1) (gCons (gName 2) (gCons (gName 3) gNil)))) PyData.bool rfl scIsSafe.nd
    (w_tupG (enc := lvD) (e_callE (M1 := [(d, eqC (.dK []))]) (M2 := []) (M1' := [(d, anyK)]) (Rz := isD (lvRes k Bt)) c_all_leaves hr (ea_of fun _ _ gg => ra_cons (isB_mono _ _ _ _) (g_v gg (pv 0) rfl) ra_nil) (fun vs F h => ⟨k, Bt, d, h, vb, rfl, rfl, fun _ _ h => h⟩) rfl))
    (blkOk_by (N := ["book", "at", "cover", "run"]) (sc := defScope sIsSafe) (by decide +kernel)) ?_ hlen ?_
  · intro _ _ _ _ _
    exact (pg_tup rfl (pgs_cons (pg_name (i := 1) scIsSafe.nd rfl (by first | exact Or.inl rfl | exact Or.inr rfl)) (pgs_cons (pg_name (i := 2) scIsSafe.nd rfl (by first | exact Or.inl rfl | exact Or.inr rfl)) (pgs_cons (pg_name (i := 3) scIsSafe.nd rfl (by first | exact Or.inl rfl | exact Or.inr rfl)) pgs_nil))))
  · intro σ H gg a ha S' H' v u en
    refine it_trip (p := fun _ => true) (d := fun z => .bool z.2.2.isSome) (vs := [1, 2, 3]) (i := 1) (j := 2) (l := 3) (ea := fun z : Int × List Int × Option (List Int) => isD (.int z.1)) (eb := fun z => isD (vec z.2.1)) (ec := fun z => isD (oD z.2.2)) gg (by decide) (by decide) (by decide) rfl rfl rfl (fun _ => isD_mono _) (fun _ => isD_mono _) (fun _ => isD_mono _) ?_ a ha S' H' v u (trip_of en)
    exact fun a _ S2 σ2 H2 g2 => ⟨b_nil, fun _ _ _ _ _ _ => r_eq (r_notN (d := oD a.2.2) (g_v g2 (pv 3) rfl)) (by rcases a with ⟨_, _, _ | _⟩ <;> rfl)⟩
end
end N34

set_option Elab.async false
set_option linter.all false
set_option maxRecDepth 100000
set_option maxHeartbeats 1000000
/-! ways_on, all_ends -/
namespace N34
open PySem PySem.Spec PyProof.Rows L2
theorem steps_ok {k : Nat} {B : List (List Int)} (vb : VB k B) {w : List Int} (hw : CrOk k w) {p : Int × List Int} (h : p ∈ stepsM B w) : CrOk k p.2 ∧ p.2.sum ≤ w.sum - 1 ∧ ∃ b ∈ B, leB b w = true ∧ p.2 = subL w b := by
  unfold stepsM at h
  obtain ⟨q, hq, rfl⟩ := List.mem_map.mp h
  obtain ⟨h1, h2⟩ := List.mem_filter.mp hq
  have hb := (zipIdx_mem h1).1
  have hl := vb.len _ hb
  have hp := vb.ps _ hb
  have hs := sub_sum (hw.len.trans hl.symm)
  exact ⟨sub_cr hw hl h2, by show (subL w q.1).sum ≤ _; omega, q.1, hb, h2, rfl⟩
structure WI (k s : Nat) (j : Int) (later : List (List Int)) (found : Wy) : Prop where
  bx : BxOk k s (found.map (·.1))
  run : ∀ p ∈ found, (p.2.length : Int) + p.1.sum ≤ s
  fr : ∀ w ∈ later, w ∈ found.map (·.1) ∧ w.sum ≤ s - j
  fl : later.length ≤ found.length
theorem pt_len_new {β : Type} {m : List (List Int × β)} {c : List Int} {b : β} (h : ¬ (lk m c).isSome = true) : (pt m c b).length = m.length + 1 := by
  have e := congrArg List.length (pt_keys (m := m) (c := c) (b := b))
  rw [List.length_map] at e
  rw [lk_some] at h
  rw [if_neg (by simpa using h)] at e
  simp at e; exact e
theorem key_pt {β : Type} {m : List (List Int × β)} {c x : List Int} {b : β} : x ∈ (pt m c b).map (·.1) ↔ x ∈ m.map (·.1) ∨ x = c := by
  rw [pt_keys]
  split
  · rename_i h; exact ⟨.inl, fun z => z.elim id fun e => e ▸ h⟩
  · rw [List.mem_append, List.mem_singleton]
/-- a turn: w waits, of level j; what comes is of level j + 1 -/
theorem wyIn_ok {k s : Nat} {B : List (List Int)} (vb : VB k B) {j : Int} {w : List Int} {st : Wy × List (List Int)} {p : Int × List Int} (hw : w ∈ st.1.map (·.1)) (hs : w.sum ≤ s - j) (hp : p ∈ stepsM B w) (h : WI k s (j + 1) st.2 st.1) :
    WI k s (j + 1) (wyIn w st p).2 (wyIn w st p).1 ∧ ∀ x ∈ st.1.map (·.1), x ∈ (wyIn w st p).1.map (·.1) := by
  obtain ⟨c1, c2⟩ := h.bx.cr w hw
  obtain ⟨h1, h2, _⟩ := steps_ok vb c1 hp
  unfold wyIn
  split
  · exact ⟨h, fun _ h => h⟩
  · rename_i hn
    have hsum := sum_nn h1.nn
    obtain ⟨q, hq, hqw⟩ := List.mem_map.mp hw
    refine ⟨⟨h.bx.put h1 (by omega), fun r hr => ?_, fun x hx => ?_, ?_⟩, fun x hx => key_pt.mpr (.inl hx)⟩
    · rcases pt_mem hr with z | z
      · exact h.run r z
      · rw [z]
        show ((((lk st.1 w).getD [] ++ [p.1]).length : Nat) : Int) + p.2.sum ≤ s
        cases e : lk st.1 w with
        | none =>
          have := lk_some (m := st.1) (c := w)
          rw [e, decide_eq_true hw] at this; cases this
        | some v =>
          have := h.run (w, v) (lk_mem e)
          have e2 : (some v).getD [] = v := rfl
          rw [e2, List.length_append]
          simp at this ⊢; omega
    · have hx' : x ∈ st.2 ++ [p.2] := hx
      rcases List.mem_append.mp hx' with z | z
      · exact ⟨key_pt.mpr (.inl (h.fr x z).1), (h.fr x z).2⟩
      · rw [List.mem_singleton.mp z]; exact ⟨key_pt.mpr (.inr rfl), by omega⟩
    · show (st.2 ++ [p.2]).length ≤ (pt st.1 p.2 _).length
      rw [pt_len_new hn, List.length_append]; have := h.fl; simp; omega
theorem wyIn_fold {k s : Nat} {B : List (List Int)} (vb : VB k B) {j : Int} {w : List Int} (hs : w.sum ≤ s - j) : ∀ (pre : List (Int × List Int)) (st : Wy × List (List Int)), (∀ p ∈ pre, p ∈ stepsM B w) → w ∈ st.1.map (·.1) → WI k s (j + 1) st.2 st.1 →
    WI k s (j + 1) (pre.foldl (wyIn w) st).2 (pre.foldl (wyIn w) st).1 ∧ ∀ x ∈ st.1.map (·.1), x ∈ (pre.foldl (wyIn w) st).1.map (·.1)
  | [], _, _, _, h => ⟨h, fun _ h => h⟩
  | p :: pre, st, hp, hw, h => by
    obtain ⟨h1, h2⟩ := wyIn_ok vb hw hs (hp p List.mem_cons_self) h
    obtain ⟨h3, h4⟩ := wyIn_fold vb hs pre _ (fun q hq => hp q (List.mem_cons_of_mem _ hq)) (h2 w hw) h1
    exact ⟨h3, fun x hx => h4 x (h2 x hx)⟩
theorem wyStep_fold {k s : Nat} {B : List (List Int)} (vb : VB k B) {j : Int} : ∀ (pre : List (List Int)) (st : Wy × List (List Int)), (∀ w ∈ pre, w ∈ st.1.map (·.1) ∧ w.sum ≤ s - j) → WI k s (j + 1) st.2 st.1 →
    WI k s (j + 1) (pre.foldl (wyStep B) st).2 (pre.foldl (wyStep B) st).1 ∧ ∀ x ∈ st.1.map (·.1), x ∈ (pre.foldl (wyStep B) st).1.map (·.1)
  | [], _, _, h => ⟨h, fun _ h => h⟩
  | w :: pre, st, hp, h => by
    obtain ⟨hw, hs⟩ := hp w List.mem_cons_self
    have e : wyStep B st w = (stepsM B w).foldl (wyIn w) st := by unfold wyStep; rfl
    rw [List.foldl_cons, e]
    obtain ⟨h1, h2⟩ := wyIn_fold vb hs (stepsM B w) st (fun _ h => h) hw h
    obtain ⟨h3, h4⟩ := wyStep_fold vb pre _ (fun v hv => ⟨h2 v (hp v (List.mem_cons_of_mem _ hv)).1, (hp v (List.mem_cons_of_mem _ hv)).2⟩) h1
    exact ⟨h3, fun x hx => h4 x (h2 x hx)⟩
theorem WI.start {k s : Nat} {j : Int} {later : List (List Int)} {found : Wy} (h : WI k s j later found) : WI k s (j + 1) [] found := ⟨h.bx, h.run, fun _ h => (nomatch h), Nat.zero_le _⟩
theorem WI.step {k s : Nat} {B : List (List Int)} (vb : VB k B) {j : Int} {fresh : List (List Int)} {found : Wy} (h : WI k s j fresh found) : WI k s (j + 1) (fresh.foldl (wyStep B) (found, [])).2 (fresh.foldl (wyStep B) (found, [])).1 :=
  (wyStep_fold vb fresh (found, []) h.fr h.start).1
theorem WI.zero {k s : Nat} {x : List Int} (hx : CrOk k x) (hs : x.sum ≤ s) : WI k s 0 [x] [(x, [])] :=
  ⟨⟨by simp, fun y hy => by simp at hy; rw [hy]; exact ⟨hx, hs⟩⟩, fun p hp => by rw [List.mem_singleton.mp hp]; simpa using hs, fun w hw => by rw [List.mem_singleton.mp hw]; exact ⟨by simp, by omega⟩, Nat.le_refl 1⟩
theorem WI.lvl {k s : Nat} {j : Int} {fresh : List (List Int)} {found : Wy} (h : WI k s j fresh found) (hf : ¬ fresh.length = 0) : j ≤ s := by
  cases fresh with
  | nil => exact absurd rfl hf
  | cons w fresh =>
    obtain ⟨h1, h2⟩ := h.fr w List.mem_cons_self
    have := sum_nn (h.bx.cr w h1).1.nn
    omega
theorem WI.few {k s : Nat} {j : Int} {fresh : List (List Int)} {found : Wy} (h : WI k s j fresh found) (hk : k ≤ 4) (hs : s ≤ 8) : found.length ≤ 6561 := by
  have h1 : (found.map (·.1)).length ≤ (s + 1) ^ k := h.bx.few
  rw [List.length_map] at h1
  have h2 : (s + 1) ^ k ≤ 9 ^ k := Nat.pow_le_pow_left (by omega) k
  have h3 : 9 ^ k ≤ 9 ^ 4 := Nat.pow_le_pow_right (by decide) hk
  omega
theorem wyLoop_nil {B : List (List Int)} {found : Wy} : ∀ n, wyLoop B n [] found = found
  | 0 => rfl
  | n + 1 => rfl
theorem wyLoop_succ {B : List (List Int)} {n : Nat} {fresh : List (List Int)} {found : Wy} (h : ¬ fresh.length = 0) : wyLoop B (n + 1) fresh found = wyLoop B n (fresh.foldl (wyStep B) (found, [])).2 (fresh.foldl (wyStep B) (found, [])).1 := by
  rw [wyLoop, if_neg h]
theorem wyLoop_end {k s : Nat} {B : List (List Int)} (vb : VB k B) : ∀ (n j : Nat) (fresh : List (List Int)) (found : Wy), s + 1 ≤ n + j → WI k s j fresh found → ∃ j', WI k s j' [] (wyLoop B n fresh found)
  | 0, j, fresh, found, hn, h => by
    by_cases hf : fresh.length = 0
    · rw [List.length_eq_zero_iff.mp hf] at h ⊢; exact ⟨j, h⟩
    · have := h.lvl hf; omega
  | n + 1, j, fresh, found, hn, h => by
    by_cases hf : fresh.length = 0
    · rw [List.length_eq_zero_iff.mp hf] at h ⊢; rw [wyLoop_nil]; exact ⟨j, h⟩
    · rw [wyLoop_succ hf]
      exact wyLoop_end vb n (j + 1) _ _ (by omega) (h.step vb)
theorem ways_ok {k s : Nat} {B : List (List Int)} (vb : VB k B) {x : List Int} (hx : CrOk k x) (hs : x.sum = s) : BxOk k s ((waysM B x).map (·.1)) := by
  unfold waysM
  obtain ⟨_, h⟩ := wyLoop_end (k := k) (s := s) vb (x.sum.toNat + 2) 0 [x] [(x, [])] (by omega) (WI.zero hx (by omega))
  exact h.bx
local macro_rules | `(tactic| walk_at "sz") => `(tactic| first | omega | (simp only [List.length_zip, List.length_map, List.length_range, List.length_zipIdx]; omega) | exact ⟨by omega, by omega⟩)
local macro_rules | `(tactic| walk_at "leg") => `(tactic| repeat (first | exact LeG.nil | apply LeG.keep | apply LeG.drop))
local macro_rules | `(tactic| walk_at "sd") => `(tactic| first | trivial | assumption | omega)
section
variable {P : Program} {w : World} {K : PySem.W.Frag} {mg : Str → Option Value} {base : Heap} {C : Addr}
abbrev wyS (p : Nat × List (List Int) × List Int) : Prop := VB p.1 p.2.1 ∧ CrOk p.1 p.2.2 ∧ p.2.2.sum ≤ 8
/-- a new dict comes -/
def spWy (C : Addr) : Sp := fun vs H Q _ => ∃ S p, Al S H ∧ AllR (bx C p) vs (hid S H) ∧ wyS p ∧ ∀ d o H', Ex H H' → H d = none → H' d = some o → dicC enV (waysM p.2.1 p.2.2) o (hid (d :: S) H') → Q (.ref d) H'

-- def ways_on book:B crowd:v
theorem scWaysOn : FnScope ["book", "crowd", "found", "fresh", "later", "waiting", "at", "rest"] ["book", "crowd"] (defScope sWaysOn) := ⟨rfl, rfl, rfl, by decide +kernel, rfl, by decide +kernel, by decide +kernel⟩
theorem ok_waysOn (B : Bl mg) (T : BkF K C) (F : FnAt K mg "ways_on" sWaysOn) (c_steps : Cl P w K mg base "steps" 2 ["book", "crowd"] (sSt C)) : Cl P w K mg base "ways_on" 3 ["book", "crowd"] (spWy C) := by
  obtain ⟨f, fd, Fd, hm⟩ := F.ex
  refine ⟨f, fd, Fd.ok scWaysOn (fun vs H Q E ⟨_, p, _, h, _⟩ => h.length) (fun cdv A outer s H vs Q E hr h => ⟨_, PSs.nox pss_SW, ?_⟩), hm, Fd.kp, Fd.bindsN fun _ _ _ _ _ _ us hl => match us, hl with | [_, _], _ => rfl⟩
  obtain ⟨S, p, al, ha, ⟨vb, hx, hs8⟩, q⟩ := h
  have h5 := vb.le
  have k4 := vb.le4
  have g := Sg.start (Rs := bx C p) (N := ["book", "crowd", "found", "fresh", "later", "waiting", "at", "rest"]) al (⟨isBk_mono _ _ _, isD_mono _, trivial⟩ : MonoA (bx C p)) ha (by rw [ha.length]; exact Nat.le_of_ble_eq_true rfl)
  obtain ⟨s, hs⟩ : ∃ s : Nat, p.2.2.sum = s := ⟨p.2.2.sum.toNat, by have := sum_nn hx.nn; omega⟩
  refine sx_par2 (i := 2) (j := 3) rfl scWaysOn.nd (se_newD1 (en := enV) (kc := p.2.2) (bv := []) g (hu1 hr) enV_mono (fun S' M' H' gg => (g_v gg (pv 1) rfl)) (fun S' M' H' gg => r_tupI (x := []) ra_nil) fun d H1 hd g1 => se_g g1 (R := isD (lvec [p.2.2])) (r_lstE vec [_] (ra_D (g_v g1 (pv 1) rfl) ra_nil)) fun v H2 g2 e2 rv => ?_)
  have g3 := (g2.set (i := 2) (blt rfl) (isR_mono d) rfl).set (i := 3) (blt rfl) (isD_mono _) rv
  refine sw_while PassesOwn.never (fun n σ' H' => ∃ fresh found, ∃ j : Nat, n + j = s + 2 ∧ WI p.1 s j fresh found ∧ wyLoop p.2.1 n fresh found = waysM p.2.1 p.2.2 ∧
    Sg (d :: S) [H] [some (isBk C p.1 p.2.1), some (isD (vec p.2.2)), some (isR d), some (isD (lvec fresh)), none, none, none, none] [(d, dicC enV found)] σ' H')
    (m := s + 2) ⟨[p.2.2], [(p.2.2, [])], 0, rfl, WI.zero hx (by omega), by unfold waysM; rw [hs]; rfl, g3⟩ ?_
  rintro n σ4 H4 ⟨fresh, found, j, hnj, inv, hloop, g4⟩

  refine ⟨_, decide ((0 : Int) < (fresh.length : Nat)), t_eq (t_gt (r_lenL B.len (g_v g4 (pv 3) rfl)) r_int) (by rw [List.length_map]), g4.al, fun hb H5 e5 => ?_, fun hb H5 e5 => ?_⟩
  · have hne : ¬ fresh.length = 0 := by have := of_decide_eq_true hb; omega
    have hj := inv.lvl hne
    have g5 := g4.next e5
    refine gs_newL (i := 4) (ds := []) g5 scWaysOn.nd ra_nil fun la σ6 H6 hla g6 => ?_
    refine gs_for g6 PassesOwn.never rfl (w_list (g_v g6 (pv 3) rfl)) (pg_name (i := 5) scWaysOn.nd rfl (by first | exact Or.inl rfl | exact Or.inr rfl)) (fun _ => [some (isBk C p.1 p.2.1), some (isD (vec p.2.2)), some (isR d), some (isD (lvec fresh)), some (isR la), none, none, none]) (fun pre => [(la, lisC ((pre.foldl (wyStep p.2.1) (found, [])).2.map vec)), (d, dicC enV (pre.foldl (wyStep p.2.1) (found, [])).1)]) (fun H' g' => g'.le (by walk_at "leg")) (fun B' pre x post hpx σ7 H7 v7 g7 hv7 => ?_) (fun σ7 H7 g7 => ?_)
    · have hxm : x ∈ fresh := by rw [hpx]; simp
      obtain ⟨hst, hsub⟩ := wyStep_fold vb pre (found, []) (fun y hy => inv.fr y (by rw [hpx]; simp [hy])) inv.start
      have hxk := hsub x (inv.fr x hxm).1
      simp only [List.foldl_append, List.foldl_cons, List.foldl_nil]
      generalize pre.foldl (wyStep p.2.1) (found, []) = st at g7 hst hxk
      have est : wyStep p.2.1 st x = (stepsM p.2.1 x).foldl (wyIn x) st := by unfold wyStep; rfl
      simp only [est]
      have hxc := (hst.bx.cr x hxk).1
      refine gst_name g7 rfl (isD_mono _) hv7 fun σ8 g8 => ?_
      refine gs_for g8 PassesOwn.never rfl (w_list (enc := prD) (r_callD c_steps hr (p := (p.1, p.2.1, x)) rfl (ra_cons (isBk_mono _ _ _) (g_v g8 (pv 0) rfl) (ra_D (g_v g8 (pv 5) rfl) ra_nil)) ⟨vb, hxc.len⟩)) (pg_tup rfl (pgs_cons (pg_name (i := 6) scWaysOn.nd rfl (by first | exact Or.inl rfl | exact Or.inr rfl)) (pgs_cons (pg_name (i := 7) scWaysOn.nd rfl (by first | exact Or.inl rfl | exact Or.inr rfl)) pgs_nil))) (fun _ => [some (isBk C p.1 p.2.1), some (isD (vec p.2.2)), some (isR d), some (isD (lvec fresh)), some (isR la), some (isD (vec x)), none, none])
        (fun pre2 => [(la, lisC ((pre2.foldl (wyIn x) st).2.map vec)), (d, dicC enV (pre2.foldl (wyIn x) st).1)]) (fun H' g' => g'.le (by walk_at "leg")) (fun B2 pre2 y post2 hy σ9 H9 v9 g9 hv9 => ?_) (fun σ9 H9 g9 => sw_nil (g9.le (by walk_at "leg")))
      have hy' : stepsM p.2.1 x = pre2 ++ y :: post2 := hy
      have hys : y ∈ stepsM p.2.1 x := by rw [hy']; simp
      obtain ⟨hst2, hsub2⟩ := wyIn_fold vb (inv.fr x hxm).2 pre2 st (fun z hz => by rw [hy']; simp [hz]) hxk hst
      have hxk2 := hsub2 x hxk
      simp only [List.foldl_append, List.foldl_cons, List.foldl_nil]
      generalize pre2.foldl (wyIn x) st = st2 at g9 hst2 hxk2
      have hfew := hst2.few k4 (by omega)
      have hfl := hst2.fl
      refine gst_pair (Ra := isD (.int y.1)) (Rb := isD (vec y.2)) g9 rfl rfl (isD_mono _) (isD_mono _) (pair_of hv9) fun σ10 g10 => ?_
      refine gs_if1 g10 (t_ninT g10 (hu1 hr) (j := 1) rfl (g_v g10 (pv 7) rfl) (g_v g10 (pv 2) rfl)) (fun hb2 H11 g11 => ?_) (fun hb2 H11 g11 => ?_)
      · have hn : ¬ (lk st2.1 y.2).isSome = true := by simpa using hb2
        have hxs := lk_some (m := st2.1) (c := x)
        rw [decide_eq_true hxk2] at hxs
        obtain ⟨rv, hrv⟩ := Option.isSome_iff_exists.mp hxs
        have hrl := hst2.run (x, rv) (lk_mem hrv)
        have hxn := sum_nn hxc.nn
        have e2 : wyIn x st2 y = (pt st2.1 y.2 (rv ++ [y.1]), st2.2 ++ [y.2]) := by unfold wyIn; rw [if_neg hn, hrv]; rfl
        simp only [e2]
        refine gs_dput g11 (hu1 hr) enV_mono (en := enV) (kc := y.2) (bv := rv ++ [y.1]) (e_of fun _ _ gg => r_tupI (ra_starV (g_getT gg (hu1 hr) enV_mono (j := 1) rfl (g_v gg (pv 2) rfl) (g_v gg (pv 5) rfl) hrv) (ra_I (g_v gg (pv 6) rfl) ra_nilI)) (by simp at hrl ⊢; omega)) (fun _ _ gg => (g_v gg (pv 2) rfl)) (fun _ _ gg => (g_v gg (pv 7) rfl)) (j := 1) rfl (by omega) fun H12 g12 => ?_


        refine gs_exprG g12 (e_app (j := 0) (e_of fun _ _ gg => (g_v gg (pv 4) rfl)) rfl (e_of fun _ _ gg => (g_v gg (pv 7) rfl)) rfl (by rw [List.length_map]; omega)) fun H13 g13 => sw_nil (sw_nil ?_)

        rw [List.map_append]
        exact g13.le (by walk_at "leg")
      · have hn : (lk st2.1 y.2).isSome = true := by simpa using hb2
        have e2 : wyIn x st2 y = st2 := by unfold wyIn; rw [if_pos hn]
        simp only [e2]
        exact sw_nil (g11.le (by walk_at "leg"))
    · have inv' := inv.step vb (B := p.2.1)
      obtain ⟨m, rfl⟩ : ∃ m, n = m + 1 := ⟨n - 1, by omega⟩
      rw [wyLoop_succ hne] at hloop
      generalize fresh.foldl (wyStep p.2.1) (found, []) = st at g7 inv' hloop
      refine gs_set g7 (i := 3) scWaysOn.nd (g_v g7 (pv 4) rfl) (isR_mono _) fun σ8 H8 g8 => sw_nil ⟨m, Nat.lt_succ_self m, st.2, st.1, j + 1, by omega, inv', hloop, ?_⟩
      exact (g8.freeze (S := d :: S) (i := 3) (j := 0) (fun b hb => List.mem_cons_of_mem _ hb) hla rfl rfl (fun q hq => by simp only [List.eraseIdx, List.mem_cons, List.not_mem_nil, or_false] at hq; rw [hq]; exact List.mem_cons_self)).le (by walk_at "leg")
  · have hne : fresh = [] := by have := of_decide_eq_false hb; exact List.length_eq_zero_iff.mp (by omega)
    have g5 := g4.next e5
    subst hne
    rw [wyLoop_nil] at hloop
    subst hloop
    refine sx_ret (se_g g5 (g_v g5 (pv 2) rfl) fun v H6 g6 e6 r6 => ?_)
    obtain rfl : v = .ref d := r6
    obtain ⟨_, hB, _, o, ho, hc⟩ := g6.ce (d, dicC enV _) List.mem_cons_self
    exact q d o H6 (g6.ex _ List.mem_cons_self) (hB H List.mem_cons_self) ho hc
abbrev sAe (C : Addr) := spF (spD (bx C) wyS fun p => tvec (endsM p.2.1 p.2.2))

-- def all_ends book:B crowd:v
theorem scAllEnds : FnScope ["book", "crowd", "found", "rest"] ["book", "crowd"] (defScope sAllEnds) := ⟨rfl, rfl, rfl, by decide +kernel, rfl, by decide +kernel, by decide +kernel⟩
theorem ok_allEnds (B : Bl mg) (T : BkF K C) (F : FnAt K mg "all_ends" sAllEnds) (c_steps : Cl P w K mg base "steps" 2 ["book", "crowd"] (sSt C)) (c_checked_crowd : Cl P w K mg base "checked_crowd" 3 ["book", "value"] (sCc C)) (c_ways_on : Cl P w K mg base "ways_on" 3 ["book", "crowd"] (spWy C)) :
    Cl P w K mg base "all_ends" 4 ["book", "crowd"] (sAe C) := by
  refine cl_D F scAllEnds (fun p => ⟨isBk_mono _ _ _, isD_mono _, trivial⟩) (fun _ => rfl) (by decide) (fun _ _ _ _ _ _ us hl => match us, hl with | [_, _], _ => rfl) (fun f cdv A outer s H σ S R E p hr g hs hR => ?_)
  obtain ⟨vb, hx, hs8⟩ : wyS p := hs
  have h5 := vb.le
  have k4 := vb.le4
  obtain ⟨fw, fdw, Fw, hmw, kpw, bdw⟩ := c_ways_on.ok
  refine sx_set scAllEnds.nd (i := 2) (se_of (pe_call Fw hr rfl hmw kpw bdw .nil pass0 (ra_cons (isBk_mono C p.1 p.2.1) (g_v g (pv 0) rfl) (ra_D (r_callD c_checked_crowd hr (p := (p.1, p.2.1, p.2.2)) rfl (ra_cons (isBk_mono C p.1 p.2.1) (g_v g (pv 0) rfl) (ra_D (g_v g (pv 1) rfl) ra_nil)) ⟨vb, hx.len, hx.nn⟩) ra_nil))) ⟨rfl, Ex.refl _, g.al, fun vs H1 e1 ra => ?_⟩)
  show spWy C (vs ++ []) H1 _ _
  rw [List.append_nil]
  refine ⟨S, p, g.al.ex e1, ra, ⟨vb, hx, hs8⟩, fun d o H2 e2 hd ho hc => ?_⟩
  have g1 := ((g.next e1).cell e2 hd ho (dicC_mono enV_mono _) hc).set (i := 2) (blt rfl) (isR_mono d) rfl
  obtain ⟨s, hs⟩ : ∃ s : Nat, p.2.2.sum = s := ⟨p.2.2.sum.toNat, by have := sum_nn hx.nn; omega⟩
  have bxo := ways_ok vb hx hs
  have hlen : ((waysM p.2.1 p.2.2).map (·.1)).length ≤ 100000 := by
    have h1 := bxo.few
    have h2 : (s + 1) ^ p.1 ≤ 9 ^ p.1 := Nat.pow_le_pow_left (by omega) p.1
    have h3 : 9 ^ p.1 ≤ 9 ^ 4 := Nat.pow_le_pow_right (by decide) k4
    omega

  have hpos := vb.pos
  refine gs_ret g1 (r_eq (r_tupleL B.tuple (r_sortV B.sorted (nss := ((waysM p.2.1 p.2.2).map (·.1)).filter fun r => decide ((stepsM p.2.1 r).length = 0)) ?_ fun c hc => ?_)) (by unfold endsM; rfl)) fun v H' g' r => fin_D g' (fun _ h => List.mem_cons_of_mem _ h) r hR
  · refine r_lock g1 enV_mono (j := 0) rfl fun od kvs H' g' => ?_
    refine r_eq (r_lcE (own := [("rest", 3)]) (p := fun r => decide ((stepsM p.2.1 r).length = 0)) (f := fun r => r) vec rfl scAllEnds.nd (w_keys g' (j := 0) rfl (g_v g' (pv 2) rfl)) (blkOk_by (N := ["book", "crowd", "found", "rest"]) (sc := defScope sAllEnds) (by decide +kernel)) (fun _ _ _ _ _ => (pg_name (i := 3) scAllEnds.nd rfl (by first | exact Or.inl rfl | exact Or.inr rfl))) hlen ?_) (by rw [map_self])
    exact (it_name g' (by decide) rfl (fun _ => isD_mono _) fun r hr0 S3 σ3 H3 g3 => ⟨b_one fun _ _ _ _ _ => t_eq (t_eqI (r_lenL B.len (r_callD c_steps (hr.mono (by omega)) (p := (p.1, p.2.1, r)) rfl (ra_cons (isBk_mono _ _ _) (g_v g3 (pv 0) rfl) (ra_D (g_v g3 (pv 3) rfl) ra_nil)) ⟨vb, (bxo.cr r hr0).1.len⟩)) r_int) (by rw [List.length_map]; simp), fun _ _ _ _ _ _ => (g_v g3 (pv 3) rfl)⟩)
  intro e
  have := (bxo.cr c (List.mem_filter.mp hc).1).1.len
  rw [e] at this; simp at this; omega
end
end N34

set_option Elab.async false
set_option linter.all false
set_option maxRecDepth 100000
set_option maxHeartbeats 1000000
/-! _law_clears -/
namespace N34
open PySem PySem.Spec PyProof.Rows L2
abbrev enB : List Int → Bool → RV := fun _ b => isD (.bool b)
theorem enB_mono : MonoE enB := fun _ _ => isD_mono _
section
variable {X : Cx} {S : List Addr} {Bs : List Hp} {Γ : Ga} {M M' M1 M2 : Ce} {R Ra Rb Rz : RV} {a b e c : Expr} {es : List Expr} {pos : Pos} {d : PyData} {σ : L2.St} {H : Hp} {x y : Bool} {rest : List Expr}
theorem t_valG {b : Bool} (h : PE X e (tG S Bs Γ M M' (isD (.bool b)))) (he : ∀ whole, isTrue e X.env whole = (do let v ← whole; standAt e.pos; holding [v] (truthy v)) := by intro _; rfl) : PT X e (tGT S Bs Γ M M' b) :=
  PT_imp (pt_val h he) fun σ H Q ⟨g, k⟩ => ⟨g, fun v H1 g1 e1 rv => ⟨b, rv.blI, k _ g1 e1⟩⟩
theorem qG_one {c : Expr} (h : PT X c (tGT S Bs Γ M M' x)) : QT X (.BoolOp .And [c] pos) (tGT S Bs Γ M M' x) := ⟨pw_and1 h⟩
theorem qG_and (ha : PT X a (tGT S Bs Γ M M1 x)) (hb : x = true → QT X (.BoolOp .And (b :: rest) pos) (tGT S Bs Γ M1 M' y)) (hm : x = false → M' = M1) : QT X (.BoolOp .And (a :: b :: rest) pos) (tGT S Bs Γ M M' (x && y)) := by
  cases x with
  | true => exact ⟨PW_imp (pw_and ha (hb rfl).pw) fun σ H Q ⟨g, k⟩ => ⟨g, fun H1 g1 e1 => iteT <| ⟨g1, fun H2 g2 e2 => k H2 g2 (e1.trans e2)⟩⟩⟩
  | false => exact ⟨PW_imp (pw_and (tB' := fun σ H Q => ∀ whole pins s, Inv X pins σ H s → wpAny (model X.prog X.w) X.A (isTrue (.BoolOp .And (b :: rest) pos) X.env whole) (TP X pins σ Q) X.xe s) ha ⟨fun whole pins s σ H Q I h => h whole pins s I⟩) fun σ H Q ⟨g, k⟩ => ⟨g, fun H1 g1 e1 => iteF <| k H1 (by rw [hm rfl]; exact g1) e1⟩⟩
end
/-! ### plain -/
theorem lclM_nought {B : List (List Int)} {n : Nat} {x : List Int} {kn : Kb} (h : x.sum = 0) : lclM B (n + 1) x kn = (true, kn) := by rw [lclM, if_pos h]
theorem lclM_in {B : List (List Int)} {n : Nat} {x : List Int} {kn : Kb} (h : ¬ x.sum = 0) (h2 : (lk kn x).isSome = true) : lclM B (n + 1) x kn = ((lk kn x).getD false, kn) := by rw [lclM, if_neg h]; simp only [if_pos h2]
theorem lclM_out {B : List (List Int)} {n : Nat} {x : List Int} {kn : Kb} (h : ¬ x.sum = 0) (h2 : ¬ (lk kn x).isSome = true) : lclM B (n + 1) x kn = ((lk (lclGo (lclM B n) x (vAt (kinds1 x) 0) B (pt kn x false)) x).getD false, lclGo (lclM B n) x (vAt (kinds1 x) 0) B (pt kn x false)) := by
  rw [lclM, if_neg h]; simp only [if_neg h2]
/-- what is known grows -/
structure BStep (k : Nat) (m m' : Kb) : Prop where
  bx : BxOk k 20 (m'.map (·.1))
  le : ∀ c, (lk m c).isSome = true → (lk m' c).isSome = true
theorem BStep.trans {k : Nat} {a b c : Kb} (h : BStep k a b) (g : BStep k b c) : BStep k a c := ⟨g.bx, fun x hx => g.le x (h.le x hx)⟩
theorem BStep.put {k : Nat} {m m' : Kb} {c : List Int} {b : Bool} (h : BStep k m m') (hc : CrOk k c) (hs : c.sum ≤ 20) : BStep k m (pt m' c b) := ⟨h.bx.put hc hs, fun x hx => pt_le x (h.le x hx)⟩
theorem lclGo_step {k : Nat} {x : List Int} {fst : Int} {f : List Int → Kb → Bool × Kb} (hx : CrOk k x) (hs : x.sum ≤ 20) : ∀ (l : List (List Int)) (m0 m : Kb), (∀ b ∈ l, leB b x = true → ∀ m, BxOk k 20 (m.map (·.1)) → BStep k m (f (subL x b) m).2) → BStep k m0 m → (lk m x).isSome = true →
    BStep k m0 (lclGo f x fst l m) ∧ (lk (lclGo f x fst l m) x).isSome = true
  | [], m0, m, _, h, h2 => ⟨h, h2⟩
  | b :: l, m0, m, hf, h, h2 => by
    unfold lclGo
    split
    · rename_i hc
      rw [Bool.and_eq_true] at hc
      have h3 := hf b List.mem_cons_self hc.2 m h.bx
      show BStep k m0 (if (f (subL x b) m).1 = true then pt (f (subL x b) m).2 x true else lclGo f x fst l (f (subL x b) m).2) ∧ (lk (if (f (subL x b) m).1 = true then pt (f (subL x b) m).2 x true else lclGo f x fst l (f (subL x b) m).2) x).isSome = true
      split
      · exact ⟨(h.trans h3).put hx hs, by rw [lk_pt_same]; rfl⟩
      · exact lclGo_step hx hs l m0 _ (fun c hc => hf c (List.mem_cons_of_mem _ hc)) (h.trans h3) (h3.le x h2)
    · exact lclGo_step hx hs l m0 m (fun c hc => hf c (List.mem_cons_of_mem _ hc)) h h2
theorem lcl_step {k : Nat} {B : List (List Int)} (vb : VB k B) : ∀ (n : Nat) (x : List Int) (m : Kb), CrOk k x → x.sum ≤ 20 → x.sum < n → BxOk k 20 (m.map (·.1)) → BStep k m (lclM B n x m).2
  | 0, x, m, hx, _, hn, _ => by have := sum_nn hx.nn; omega
  | n + 1, x, m, hx, hs, hn, bx => by
    by_cases h : x.sum = 0
    · rw [lclM_nought h]; exact ⟨bx, fun _ h => h⟩
    by_cases h2 : (lk m x).isSome = true
    · rw [lclM_in h h2]; exact ⟨bx, fun _ h => h⟩
    rw [lclM_out h h2]
    refine (lclGo_step hx hs B m (pt m x false) (fun b hb hl m' hm' => ?_) ⟨bx.put hx hs, pt_le⟩ (by rw [lk_pt_same]; rfl)).1
    have hbl := vb.len _ hb
    have hss := sub_sum (hx.len.trans hbl.symm)
    have hbp := vb.ps _ hb
    exact lcl_step vb n _ m' (sub_cr hx hbl hl) (by omega) (by omega) hm'
local macro_rules | `(tactic| walk_at "sz") => `(tactic| first | omega | (simp only [List.length_zip, List.length_map, List.length_range, List.length_zipIdx]; omega) | exact ⟨by omega, by omega⟩)
local macro_rules | `(tactic| walk_at "leg") => `(tactic| repeat (first | exact LeG.nil | apply LeG.keep | apply LeG.drop))
local macro_rules | `(tactic| walk_at "sd") => `(tactic| first | trivial | assumption | omega)
theorem kinds1_ne : ∀ {x : List Int}, (∀ i ∈ x, 0 ≤ i) → ¬ x.sum = 0 → ¬ (kinds1 x).length = 0 := by
  intro x hx hs h
  have h0 : ∀ i ∈ x, i = 0 := fun i hi => by
    refine Classical.byContradiction fun hne => ?_
    have hi0 := hx i hi
    obtain ⟨j, hj⟩ := List.getElem?_of_mem hi
    have : (i, j) ∈ x.zipIdx.filter fun q => decide (0 < q.1) := List.mem_filter.mpr ⟨List.mem_of_getElem? (i := j) (by rw [List.getElem?_zipIdx, hj]; simp), by simp; omega⟩
    unfold kinds1 at h
    rw [List.length_map, List.length_eq_zero_iff] at h
    rw [h] at this; cases this
  have : x = List.replicate x.length 0 := List.eq_replicate_iff.mpr ⟨rfl, h0⟩
  rw [this] at hs; simp at hs
section
variable {P : Program} {w : World} {K : PySem.W.Frag} {mg : Str → Option Value} {base : Heap} {C : Addr}
structure LclP (n : Nat) (vs : List V) (F : Hp) (M M' : Ce) (R : RV) (k : Nat) (B : List (List Int)) (x : List Int) (l : Addr) (m : Kb) : Prop where
  ar : AllR [isD (lvec B), isD (vec x), isR l] vs F
  vb : VB k B
  cr : CrOk k x
  s20 : x.sum ≤ 20
  sn : x.sum < n
  bx : BxOk k 20 (m.map (·.1))
  eM : M = [(l, dicC enB m)]
  eM' : M' = [(l, dicC enB (lclM B n x m).2)]
  res : ∀ v F', Dt F' v (.bool (lclM B n x m).1) → R v F'
abbrev sLcl (n : Nat) := spE fun vs F M M' R => ∃ k B x l m, LclP n vs F M M' R k B x l m
theorem BxOk.cap {k : Nat} {m : Kb} (h : BxOk k 20 (m.map (·.1))) (hk : k ≤ 4) : m.length ≤ 200000 := by
  have h1 : (m.map (·.1)).length ≤ 21 ^ k := h.few
  rw [List.length_map] at h1
  have h2 : 21 ^ k ≤ 21 ^ 4 := Nat.pow_le_pow_right (by decide) hk
  omega


-- def _law_clears _law_batches:lv _law_crowd:v _law_known:X
theorem scLawClears : FnScope ["_law_batches", "_law_crowd", "_law_known", "_law_first", "_law_kind", "_law_x", "_law_batch"] ["_law_batches", "_law_crowd", "_law_known"] (defScope sLawClears) := ⟨rfl, rfl, rfl, by decide +kernel, rfl, by decide +kernel, by decide +kernel⟩
theorem ok_lawClears (B : Bl mg) (F : FnAt K mg "_law_clears" sLawClears) (c__law_less : Cl P w K mg base "_law_less" 1 ["_law_one", "_law_other"] lLe) (c__law_within : Cl P w K mg base "_law_within" 1 ["_law_one", "_law_other"] lWi) :
    ∀ n, Cl P w K mg base "_law_clears" (n + 2) ["_law_batches", "_law_crowd", "_law_known"] (sLcl n)
  | 0 => cl_E F scLawClears (fun vs F M M' R ⟨k, B, x, l, m, h⟩ => h.ar.length) (fun _ _ _ _ _ _ us hl => match us, hl with | [_, _, _], _ => rfl) fun f cdv A outer s H vs S M M' R E hr al ce ⟨k, B, x, l, m, h⟩ => by
    have := sum_nn h.cr.nn
    have := h.sn
    omega
  | n + 1 => by
    have c_self := ok_lawClears B F c__law_less c__law_within n
    refine cl_E F scLawClears (fun vs F M M' R ⟨k, B, x, l, m, h⟩ => h.ar.length) (fun _ _ _ _ _ _ us hl => match us, hl with | [_, _, _], _ => rfl) fun f cdv A outer s H vs S M M' R E hr al ce ⟨k, Bt, x, l, m, h⟩ => ?_
    obtain ⟨ha, vb, hx, hs20, hsn, bx, rfl, rfl, hR⟩ := h
    have hxl := hx.len
    have hle := vb.le
    have k4 := vb.le4
    have h8 := vb.few
    have g := Sg.startC (M := [(l, dicC enB m)]) (Rs := [isD (lvec Bt), isD (vec x), isR l]) (N := ["_law_batches", "_law_crowd", "_law_known", "_law_first", "_law_kind", "_law_x", "_law_batch"]) al ⟨isD_mono _, isD_mono _, isR_mono _, trivial⟩ ha (by rw [ha.length]; exact Nat.le_of_ble_eq_true rfl) ce
    refine gs_if1 g (t_eqI (r_sumT rfl B.sum (g_v g (pv 1) rfl)) r_int) (fun hb H1 g1 => ?_) (fun hb H1 g1 => ?_)
    · rw [lclM_nought (of_decide_eq_true hb)] at hR ⊢
      exact gs_ret g1 (r_bl (b := true)) fun v H' g' r => fin_E g' (hR _ _ r)
    have hs0 : ¬ x.sum = 0 := of_decide_eq_false hb
    refine gs_if1 g1 (t_ninT g1 (hu1 hr) (j := 0) rfl (g_v g1 (pv 1) rfl) (g_v g1 (pv 2) rfl)) (fun hb H2 g2 => ?_) (fun hb H2 g2 => ?_)
    · have hn : ¬ (lk m x).isSome = true := by simpa using hb
      rw [lclM_out hs0 hn] at hR ⊢
      have hkn := kinds1_ne hx.nn hs0
      have hfst := kinds1_lt (vAt_mem (x := kinds1 x) (i := 0) ⟨Int.le_refl _, by omega⟩)
      generalize hfs : vAt (kinds1 x) 0 = fst at hR hfst ⊢
      have hcap := bx.cap k4

      refine sw_cons (ps_asg pe_SE (pg_tup rfl (pgs_cons (pg_name (i := 3) scLawClears.nd rfl (.inl rfl)) (pgs_cons (pg_sub pe_SE pe_SE (set_dict (hu1 hr))) pgs_nil)))) (se_g (R := isD (.tuple [.int fst, .bool false])) g2 ?_ fun v H3 g3 e3 r3 => ?_)
      · exact r_tup (ds := [.int fst, .bool false]) (ra_D (r_eq (r_ixL (r_eq (d' := lint (kinds1 x)) (r_lc (own := [("_law_kind", 4), ("_law_x", 5)]) .int rfl scLawClears.nd (w_enumT B.enumerate (g_v g2 (pv 1) rfl)) (blkOk_by (N := ["_law_batches", "_law_crowd", "_law_known", "_law_first", "_law_kind", "_law_x", "_law_batch"]) (sc := defScope sLawClears) (by decide +kernel)) (fun _ _ _ _ _ => pg_tup rfl (pgs_cons (pg_name (i := 4) scLawClears.nd rfl (by first | exact Or.inl rfl | exact Or.inr rfl)) (pgs_cons (pg_name (i := 5) scLawClears.nd rfl (by first | exact Or.inl rfl | exact Or.inr rfl)) pgs_nil))) (by walk_at "sz") (it_pair g2 (i := 4) (j := 5) (by decide) (by decide) rfl rfl (fun _ => isD_mono _) (fun _ => isD_mono _) (fun a1 ha1 _ _ _ g1 => ⟨b_one fun _ _ _ _ _ => (t_gt (g_v g1 (pv 5) rfl) r_int), fun hp1 _ _ _ _ _ => (g_v g1 (pv 4) rfl)⟩))) (by unfold kinds1; rfl)) r_int (atI_v (i := 0) ⟨Int.le_refl _, by omega⟩)) (by rw [hfs])) (ra_D r_bl ra_nil))

      obtain ⟨t, xs, rfl, ht, hd⟩ := r3.tupI
      cases hd with
      | cons dx hd => cases hd with
        | cons dy hd => cases hd with
          | nil =>
            rename_i vx vy
            refine ⟨t, _, rfl, SqT.of (hid_le _ _ ht), rfl, vx, [vy], rfl, ?_⟩
            have g4 := g3.set (i := 3) (v := vx) (blt rfl) (isD_mono _) dx
            refine ⟨vy, [], rfl, se_g g4 (g_v g4 (pv 2) rfl) fun o H5 g5 e5 r5 => se_g g5 (g_v g5 (pv 1) rfl) fun kk H6 g6 e6 r6 => ?_⟩
            obtain rfl : o = .ref l := r5
            obtain ⟨q, rfl, hq⟩ := r6.vecI
            obtain ⟨hS, _, _, o3, ho3, kvs, rfl, d3⟩ := g6.ce (l, dicC enB m) List.mem_cons_self
            refine ⟨l, _, rfl, DPut.t (k := x.map Sum.inl) ho3 (by rw [List.map_map]; exact hid_le _ _ hq) (szB (by rw [d3.length]; omega)), rfl, ?_⟩
            have g7 := g6.put (i := 0) rfl (dicC_mono enB_mono (pt m x false)) ⟨_, rfl, d3.put (en := enB) (b := false) ((dy.mono (hid_ex e5)).mono (hid_ex e6))⟩
            refine gs_forZ g7 PassesOwn.never rfl (w_list (enc := vec) (g_v g7 (pv 0) rfl)) (pg_name (i := 6) scLawClears.nd rfl (by first | exact Or.inl rfl | exact Or.inr rfl)) (fun _ _ => [some (isD (lvec Bt)), some (isD (vec x)), some (isR l), some (isD (.int fst)), none, none, none]) (fun _ z => [(l, dicC enB z)])
              (fun pre z => (∀ post, Bt = pre ++ post → lclGo (lclM Bt n) x fst Bt (pt m x false) = lclGo (lclM Bt n) x fst post z) ∧ BStep k m z ∧ (lk z x).isSome = true) (fun H' g' => ⟨pt m x false, ⟨fun post e => by rw [List.nil_append] at e; rw [e], ⟨bx.put hx hs20, pt_le⟩, by rw [lk_pt_same]; rfl⟩, g'.le (by walk_at "leg")⟩) (fun B' pre b post hpb z ⟨jz, st, hsome⟩ σ8 H8 v8 g8 hv8 => ?_) (fun z ⟨jz, st, hsome⟩ σ8 H8 g8 => ?_)
            · have hbm : b ∈ Bt := by rw [hpb]; simp
              have hbl := vb.len _ hbm
              have hbp := vb.ps _ hbm
              have hz := jz _ hpb
              refine gst_name g8 rfl (isD_mono _) hv8 fun σ9 g9 => ?_



              by_cases hc : (decide (0 < vAt b fst) && leB b x) = true
              · obtain ⟨hc1, hc2⟩ := Bool.and_eq_true_iff.mp hc
                have hsc := sub_cr hx hbl hc2
                have hss := sub_sum (hxl.trans hbl.symm)
                have hst2 := lcl_step vb n _ z hsc (by omega) (by omega) st.bx
                rw [lclGo, if_pos hc] at hz
                generalize hx' : subL x b = x' at *
                refine gs_ifG (x := true && (true && (lclM Bt n x' z).1)) (M' := [(l, dicC enB (lclM Bt n x' z).2)]) g9 (QT.pt (qG_and (M1 := [(l, dicC enB z)]) (et_of fun _ _ gg => t_eq (t_gt (r_ixT (g_v gg (pv 6) rfl) (g_v gg (pv 3) rfl) (by exact atI_v (by omega))) r_int) hc1) (fun _ => qG_and (M1 := [(l, dicC enB z)]) (et_of fun _ _ gg => t_eq (t_val (r_callD c__law_within (hr.mono (by omega)) (p := (_, _)) rfl (ra_D (g_v gg (pv 6) rfl) (ra_D (g_v gg (pv 1) rfl) ra_nil)) (by exact ⟨by dsimp only; omega, by dsimp only; omega⟩))) hc2) (fun _ => qG_one (t_valG
                  (e_callE (M1 := [(l, dicC enB z)]) (M2 := []) (M1' := [(l, dicC enB (lclM Bt n x' z).2)]) (Rz := isD (.bool (lclM Bt n x' z).1)) c_self (hr.mono (by omega)) (ea_of fun _ _ gg => ra_D (g_v gg (pv 0) rfl) (ra_D (r_eq (d' := vec x') (r_callD c__law_less (hr.mono (by omega)) (p := (_, _)) rfl (ra_D (g_v gg (pv 1) rfl) (ra_D (g_v gg (pv 6) rfl) ra_nil)) (by exact ⟨by dsimp only; omega, by dsimp only; omega⟩)) (by rw [hx'])) (ra_cons (isR_mono l) (g_v gg (pv 2) rfl) ra_nil))) (fun vs F h => ⟨k, Bt, x', l, z, h, vb, hsc, by omega, by omega, st.bx, rfl, rfl, fun _ _ h => h⟩) rfl))) (fun h => nomatch h)) (fun h => nomatch h))) (fun hb H10 g10 => ?_) (fun hb H10 g10 => ?_)
                · have hb' : (lclM Bt n x' z).1 = true := by simpa using hb
                  rw [if_pos hb'] at hz
                  have hcap2 := hst2.bx.cap k4
                  refine gs_dput g10 (hu1 hr) enB_mono (en := enB) (kc := x) (bv := true) (e_of fun _ _ gg => r_bl) (fun _ _ gg => (g_v gg (pv 2) rfl)) (fun _ _ gg => (g_v gg (pv 1) rfl)) (j := 0) rfl (by omega) fun H11 g11 => sw_brk (sw_nil ?_)
                  rw [hz] at hR ⊢
                  have hlk : lk (pt (lclM Bt n x' z).2 x true) x = some true := lk_pt_same
                  refine gs_ret (g11.unbase) (g_getT (g11.unbase) (hu1 hr) enB_mono (j := 0) rfl (g_v (g11.unbase) (pv 2) rfl) (g_v (g11.unbase) (pv 1) rfl) hlk) fun v H' g' r => fin_E g' (hR _ _ ?_)
                  rw [hlk]; exact r
                · have hb' : ¬ (lclM Bt n x' z).1 = true := by simpa using hb
                  rw [if_neg hb'] at hz
                  refine sw_nil (sw_nil ⟨(lclM Bt n x' z).2, ⟨fun post' e => ?_, st.trans hst2, hst2.le x hsome⟩, g10.le (by walk_at "leg")⟩)
                  rw [List.append_assoc] at e
                  have : post = post' := by
                    have := hpb.symm.trans e
                    simpa using this
                  rw [← this]; exact hz
              · rw [lclGo, if_neg hc] at hz
                refine gs_if g9 (x := decide (0 < vAt b fst) && (leB b x && false)) (QT.pt (q_and (t_gt (r_ixT (g_v g9 (pv 6) rfl) (g_v g9 (pv 3) rfl) (by exact atI_v (by omega))) r_int) (fun h1 => q_and (t_val (r_callD c__law_within (hr.mono (by omega)) (p := (_, _)) rfl (ra_D (g_v g9 (pv 6) rfl) (ra_D (g_v g9 (pv 1) rfl) ra_nil)) (by exact ⟨by dsimp only; omega, by dsimp only; omega⟩))) (fun h2 => absurd (Bool.and_eq_true_iff.mpr ⟨h1, h2⟩) hc)))) (fun hb H10 g10 => absurd hb (by simp)) (fun hb H10 g10 => ?_)
                refine sw_nil (sw_nil ⟨z, ⟨fun post' e => ?_, st, hsome⟩, g10.le (by walk_at "leg")⟩)
                rw [List.append_assoc] at e
                have : post = post' := by
                  have := hpb.symm.trans e
                  simpa using this
                rw [← this]; exact hz


            · have hz := jz [] (by simp)
              rw [lclGo] at hz
              rw [hz] at hR ⊢
              obtain ⟨bv, hbv⟩ := Option.isSome_iff_exists.mp hsome
              refine sw_nil (gs_ret g8 (g_getT g8 (hu1 hr) enB_mono (j := 0) rfl (g_v g8 (pv 2) rfl) (g_v g8 (pv 1) rfl) hbv) fun v H' g' r => fin_E g' (hR _ _ ?_))
              rw [hbv]; exact r
    · have hn : (lk m x).isSome = true := by simpa using hb
      rw [lclM_in hs0 hn] at hR ⊢
      obtain ⟨bv, hbv⟩ := Option.isSome_iff_exists.mp hn
      refine gs_ret g2 (g_getT g2 (hu1 hr) enB_mono (j := 0) rfl (g_v g2 (pv 2) rfl) (g_v g2 (pv 1) rfl) hbv) fun v H' g' r => fin_E g' (hR _ _ ?_)
      rw [hbv]; exact r
end
end N34

set_option Elab.async false
set_option linter.all false
set_option maxRecDepth 100000
set_option maxHeartbeats 1000000
/-! _law_covers, _law_wrong_sums -/
namespace N34
open PySem PySem.Spec PyProof.Rows L2
theorem lay_prV (p : List Int × List Int) : PyData.canLay0 (prV p) = true := by
  show PyData.canLay0 (.tuple [vec p.1, vec p.2]) = true
  rw [PyData.canLay0, PyData.canLayAll0, PyData.canLayAll0, PyData.canLayAll0, lay_vec, lay_vec]; rfl
theorem dep_prV (p : List Int × List Int) : PyData.depth (prV p) ≤ 2 := by
  show PyData.depth (.tuple [vec p.1, vec p.2]) ≤ 2
  rw [PyData.depth, PyData.depthAll, PyData.depthAll, PyData.depthAll]
  have := dep_vec p.1
  have := dep_vec p.2
  omega
theorem shp_lprV (l : List (List Int × List Int)) : SeqAt.shaped (.list (l.map prV)) = true := shp (lay_lst lay_prV l) (dep_lst dep_prV l) (by decide)
theorem lsome_ok {B : List (List Int)} {wanted : List Int} {i : Int} (h : i ∈ lsome B wanted) : 0 ≤ i ∧ i < B.length := by
  unfold lsome at h
  obtain ⟨q, hq, rfl⟩ := List.mem_map.mp h
  have := zipIdx_lt (List.mem_filter.mp hq).1
  omega
theorem lsome_len {B : List (List Int)} {wanted : List Int} : (lsome B wanted).length ≤ B.length := by
  unfold lsome
  rw [List.length_map]
  refine Nat.le_trans (List.length_filter_le _ _) ?_
  rw [List.length_zipIdx]; exact Nat.le_refl _
structure LcOk (k : Nat) (B : List (List Int)) (wanted c : List Int) : Prop where
  idx : ∀ i ∈ c, 0 ≤ i ∧ i < B.length
  len : (c.length : Int) ≤ wanted.sum
  ne : c ≠ []
  cov : leB wanted (sumOf k B c) = true
structure RwOk (k : Nat) (B : List (List Int)) (wanted : List Int) (j : Nat) (p : List Int × List Int) : Prop where
  len : p.1.length = j
  idx : ∀ i ∈ p.1, 0 ≤ i ∧ i < B.length
  sm : p.2 = sumOf k B p.1
  lt : (j : Int) + 1 ≤ wanted.sum
structure LJ (k : Nat) (B : List (List Int)) (wanted : List Int) (j a b : Nat) (st : LC) : Prop where
  row : ∀ p ∈ st.1, RwOk k B wanted (j + 1) p
  fd : ∀ c ∈ st.2, LcOk k B wanted c
  l1 : st.1.length ≤ a
  l2 : st.2.length ≤ b
theorem lcvIn_ok {k : Nat} {B : List (List Int)} {wanted : List Int} {j a b : Nat} {p : List Int × List Int} {st : LC} {i : Int} (hp : RwOk k B wanted j p) (hi : 0 ≤ i ∧ i < B.length) (h : LJ k B wanted j a b st) : LJ k B wanted j (a + 1) (b + 1) (lcvIn B wanted p.1 p.2 st i) := by
  have hidx : ∀ x ∈ p.1 ++ [i], 0 ≤ x ∧ x < B.length := fun x hx => by
    rcases List.mem_append.mp hx with z | z
    · exact hp.idx x z
    · rw [List.mem_singleton.mp z]; exact hi
  have hs : addL p.2 (bAt B i) = sumOf k B (p.1 ++ [i]) := by rw [sumOf_snoc, hp.sm]
  have hlen := hp.len
  have hlt := hp.lt
  have h1 := h.l1
  have h2 := h.l2
  unfold lcvIn
  simp only
  split
  · rename_i hc
    split
    · refine ⟨h.row, fun c hc' => ?_, by show st.1.length ≤ _; omega, by show (st.2 ++ [_]).length ≤ _; rw [List.length_append]; simp; omega⟩
      rcases List.mem_append.mp hc' with z | z
      · exact h.fd c z
      · rw [List.mem_singleton.mp z]
        exact ⟨hidx, by rw [List.length_append]; simp; omega, by simp, by rw [← hs]; exact hc⟩
    · exact ⟨h.row, h.fd, by omega, by omega⟩
  · refine ⟨fun q hq => ?_, h.fd, ?_, by show st.2.length ≤ _; omega⟩
    · have hq' : q ∈ st.1 ++ (if (p.1.length : Int) + 1 < wanted.sum then [(p.1 ++ [i], addL p.2 (bAt B i))] else []) := hq
      rcases List.mem_append.mp hq' with z | z
      · exact h.row q z
      · split at z
        · rename_i hl
          rw [List.mem_singleton.mp z]
          exact ⟨by simp [hlen], hidx, hs, by omega⟩
        · cases z
    · show (st.1 ++ (if (p.1.length : Int) + 1 < wanted.sum then [(p.1 ++ [i], addL p.2 (bAt B i))] else [])).length ≤ a + 1
      rw [List.length_append]
      split <;> simp <;> omega
theorem lcvIn_fold {k : Nat} {B : List (List Int)} {wanted : List Int} {j : Nat} {p : List Int × List Int} (hp : RwOk k B wanted j p) : ∀ (pre : List Int) (a b : Nat) (st : LC), (∀ i ∈ pre, 0 ≤ i ∧ i < B.length) → LJ k B wanted j a b st → LJ k B wanted j (a + pre.length) (b + pre.length) (pre.foldl (lcvIn B wanted p.1 p.2) st)
  | [], _, _, _, _, h => h
  | i :: pre, a, b, st, hi, h => by
    have := lcvIn_fold hp pre (a + 1) (b + 1) _ (fun x hx => hi x (List.mem_cons_of_mem _ hx)) (lcvIn_ok hp (hi i List.mem_cons_self) h)
    rw [List.foldl_cons, List.length_cons, show a + (pre.length + 1) = a + 1 + pre.length by omega, show b + (pre.length + 1) = b + 1 + pre.length by omega]
    exact this
abbrev latsM (B : List (List Int)) (wanted row : List Int) : List Int := (lsome B wanted).filter fun at_ => decide (row = []) || decide (lastI row ≤ at_)
theorem lats_ok {B : List (List Int)} {wanted row : List Int} {i : Int} (h : i ∈ latsM B wanted row) : 0 ≤ i ∧ i < B.length := lsome_ok (List.mem_filter.mp h).1
theorem lats_len {B : List (List Int)} {wanted row : List Int} : (latsM B wanted row).length ≤ B.length := Nat.le_trans (List.length_filter_le _ _) lsome_len
theorem lcvStep_def {B : List (List Int)} {wanted : List Int} {st : LC} {p : List Int × List Int} : lcvStep B wanted st p = (latsM B wanted p.1).foldl (lcvIn B wanted p.1 p.2) st := by unfold lcvStep; rfl
theorem LJ.wk {k : Nat} {B : List (List Int)} {wanted : List Int} {j a b a' b' : Nat} {st : LC} (h : LJ k B wanted j a b st) (h1 : a ≤ a') (h2 : b ≤ b') : LJ k B wanted j a' b' st := ⟨h.row, h.fd, Nat.le_trans h.l1 h1, Nat.le_trans h.l2 h2⟩
theorem lcvStep_fold {k : Nat} {B : List (List Int)} (vb : VB k B) {wanted : List Int} {j : Nat} : ∀ (pre : List (List Int × List Int)) (a b : Nat) (st : LC), (∀ p ∈ pre, RwOk k B wanted j p) → LJ k B wanted j a b st → LJ k B wanted j (a + 8 * pre.length) (b + 8 * pre.length) (pre.foldl (lcvStep B wanted) st)
  | [], _, _, _, _, h => h
  | p :: pre, a, b, st, hp, h => by
    have h8 := vb.few
    have hl := lats_len (B := B) (wanted := wanted) (row := p.1)
    have h1 := lcvIn_fold (hp p List.mem_cons_self) (latsM B wanted p.1) a b st (fun i hi => lats_ok hi) h
    rw [← lcvStep_def] at h1
    have := lcvStep_fold vb pre (a + 8) (b + 8) _ (fun x hx => hp x (List.mem_cons_of_mem _ hx)) (h1.wk (by omega) (by omega))
    rw [List.foldl_cons, List.length_cons]
    exact this.wk (by omega) (by omega)
structure LW (k : Nat) (B : List (List Int)) (wanted : List Int) (j : Nat) (last : List (List Int × List Int)) (found : List (List Int)) : Prop where
  row : ∀ p ∈ last, RwOk k B wanted j p
  fd : ∀ c ∈ found, LcOk k B wanted c
  l1 : last.length ≤ 8 ^ j
  l2 : 7 * found.length + 8 ≤ 8 ^ (j + 1)
  j4 : j ≤ 4
theorem LW.lvl {k : Nat} {B : List (List Int)} {wanted : List Int} {j : Nat} {last : List (List Int × List Int)} {found : List (List Int)} (h : LW k B wanted j last found) (hf : ¬ last.length = 0) : (j : Int) + 1 ≤ wanted.sum := by
  cases last with
  | nil => exact absurd rfl hf
  | cons p last => exact (h.row p List.mem_cons_self).lt
theorem LW.step {k : Nat} {B : List (List Int)} (vb : VB k B) {wanted : List Int} (h4 : wanted.sum ≤ 4) {j : Nat} {last : List (List Int × List Int)} {found : List (List Int)} (h : LW k B wanted j last found) (hf : ¬ last.length = 0) :
    LW k B wanted (j + 1) (last.foldl (lcvStep B wanted) ([], found)).1 (last.foldl (lcvStep B wanted) ([], found)).2 := by
  have hj := h.lvl hf
  have g := lcvStep_fold vb last 0 found.length ([], found) h.row ⟨fun _ h => (nomatch h), h.fd, Nat.zero_le _, Nat.le_refl _⟩
  have h1 := h.l1
  have h2 := h.l2
  refine ⟨g.row, g.fd, ?_, ?_, by omega⟩
  · have := g.l1; rw [Nat.pow_succ]; omega
  · have := g.l2; rw [Nat.pow_succ, Nat.pow_succ] at *; omega
theorem LW.zero {k : Nat} {B : List (List Int)} {wanted : List Int} (h : 0 < wanted.sum) : LW k B wanted 0 [([], zer k)] [] :=
  ⟨fun p hp => by rw [List.mem_singleton.mp hp]; exact ⟨rfl, fun _ h => (nomatch h), by rw [sumOf_nil], by omega⟩, fun _ h => (nomatch h), Nat.le_refl 1, Nat.le_refl 8, Nat.zero_le _⟩
theorem lcvLoop_nil {B : List (List Int)} {wanted : List Int} {found : List (List Int)} : ∀ n, lcvLoop B wanted n [] found = found
  | 0 => rfl
  | n + 1 => rfl
theorem lcvLoop_succ {B : List (List Int)} {wanted : List Int} {n : Nat} {last : List (List Int × List Int)} {found : List (List Int)} (h : ¬ last.length = 0) :
    lcvLoop B wanted (n + 1) last found = lcvLoop B wanted n (last.foldl (lcvStep B wanted) ([], found)).1 (last.foldl (lcvStep B wanted) ([], found)).2 := by rw [lcvLoop, if_neg h]
theorem lcvLoop_end {k : Nat} {B : List (List Int)} {wanted : List Int} {I : Nat → List (List Int × List Int) → List (List Int) → Prop} (hi : ∀ j last found, I j last found → ¬ last.length = 0 → (j : Int) + 1 ≤ wanted.sum)
    (hs : ∀ j last found, I j last found → ¬ last.length = 0 → I (j + 1) (last.foldl (lcvStep B wanted) ([], found)).1 (last.foldl (lcvStep B wanted) ([], found)).2) :
    ∀ (n j : Nat) (last : List (List Int × List Int)) (found : List (List Int)), wanted.sum ≤ (n : Int) + j → I j last found → ∃ j', I j' [] (lcvLoop B wanted n last found)
  | 0, j, last, found, hn, h => by
    by_cases hf : last.length = 0
    · rw [List.length_eq_zero_iff.mp hf] at h ⊢; exact ⟨j, h⟩
    · have := hi j last found h hf; omega
  | n + 1, j, last, found, hn, h => by
    by_cases hf : last.length = 0
    · rw [List.length_eq_zero_iff.mp hf] at h ⊢; rw [lcvLoop_nil]; exact ⟨j, h⟩
    · rw [lcvLoop_succ hf]
      exact lcvLoop_end (k := k) hi hs n (j + 1) _ _ (by omega) (hs j last found h hf)
theorem lcovers_all {k : Nat} {B : List (List Int)} {wanted : List Int} (vb : VB k B) (h0 : 0 < wanted.sum) (h4 : wanted.sum ≤ 4) : (∀ c ∈ lcovers k B wanted, LcOk k B wanted c) ∧ (lcovers k B wanted).length ≤ 4681 := by
  unfold lcovers
  obtain ⟨j, g⟩ := lcvLoop_end (k := k) (B := B) (wanted := wanted) (I := LW k B wanted) (fun j l f h hf => h.lvl hf) (fun j l f h hf => h.step vb h4 hf) (wanted.sum.toNat + 2) 0 _ [] (by omega) (LW.zero h0)
  refine ⟨fun c hc => g.fd c (vsort_mem.mp hc), ?_⟩
  rw [(vsort_perm _).length_eq]
  have h1 := g.l2
  have h2 : 8 ^ (j + 1) ≤ 8 ^ 5 := Nat.pow_le_pow_right (by decide) (by have := g.j4; omega)
  omega
theorem atI_last {x : List Int} (h : x ≠ []) : atI (x.map PyData.int) (-1) = some (.int (lastI x)) := by
  have hl := List.length_pos_iff.mpr h
  unfold atI
  have e : ixN (x.map PyData.int).length (-1) = some (x.length - 1) := by
    unfold ixN
    rw [List.length_map]
    split <;> simp_all <;> omega
  rw [e]
  show (x.map PyData.int)[x.length - 1]? = _
  rw [List.getElem?_map]
  unfold lastI
  rw [List.getLast?_eq_getElem?]
  rw [List.getElem?_eq_getElem (by omega)]
  rfl
local macro_rules | `(tactic| walk_at "sz") => `(tactic| first | omega | (simp only [List.length_zip, List.length_map, List.length_range, List.length_zipIdx]; omega) | exact ⟨by omega, by omega⟩)
local macro_rules | `(tactic| walk_at "leg") => `(tactic| repeat (first | exact LeG.nil | apply LeG.keep | apply LeG.drop))
local macro_rules | `(tactic| walk_at "sd") => `(tactic| first | trivial | assumption | omega)
section
variable {P : Program} {w : World} {K : PySem.W.Frag} {mg : Str → Option Value} {base : Heap} {C : Addr}
abbrev sLcv := spF (spD lSi cvS fun p => lvec (lcovers p.1 p.2.1 p.2.2))



-- def _law_covers _law_kinds:i _law_batches:lv _law_wanted:v
theorem scLawCovers : FnScope ["_law_kinds", "_law_batches", "_law_wanted", "_law_found", "_law_last", "_law_some", "_law_at", "_law_batch", "_law_kind", "_law_x", "_law_longer", "_law_row", "_law_whole", "_law_more_here", "_law_one"] ["_law_kinds", "_law_batches", "_law_wanted"] (defScope sLawCovers) := ⟨rfl, rfl, rfl, by decide +kernel, rfl, by decide +kernel, by decide +kernel⟩
theorem ok_lawCovers (B : Bl mg) (F : FnAt K mg "_law_covers" sLawCovers) (c__law_less : Cl P w K mg base "_law_less" 1 ["_law_one", "_law_other"] lLe) (c__law_within : Cl P w K mg base "_law_within" 1 ["_law_one", "_law_other"] lWi) (c__law_more : Cl P w K mg base "_law_more" 1 ["_law_one", "_law_other"] lMo) :
    Cl P w K mg base "_law_covers" 2 ["_law_kinds", "_law_batches", "_law_wanted"] sLcv := by
  refine cl_D F scLawCovers (fun p => ⟨isD_mono _, isD_mono _, isD_mono _, trivial⟩) (fun _ => rfl) (by decide) (fun _ _ _ _ _ _ us hl => match us, hl with | [_, _, _], _ => rfl) (fun f cdv A outer s H σ S R E p hr g hs hR => ?_)
  obtain ⟨vb, hwl, hwn, hw0, hw4⟩ : cvS p := hs
  have h5 := vb.le
  have h8 := vb.few
  have hpos := vb.pos
  refine sx_par2 (i := 3) (j := 4) rfl scLawCovers.nd (se_newL (ds := []) g ra_nil fun fo H1 hfo g1 => se_g g1 (R := isD (.list ([(([] : List Int), zer p.1)].map prV))) ?_ fun v H2 g2 e2 rv => ?_)
  · exact r_lstE prV [_] (ra_D (r_tup (ds := [vec [], vec (zer p.1)]) (ra_D (r_tupI (x := []) ra_nil) (ra_D (r_eq (r_repV (r_tupI (ra_I r_int ra_nilI)) (g_v g1 (pv 0) rfl) (by walk_at "sz")) (by simp [zer_def])) ra_nil))) ra_nil)
  have g3 := (g2.set (i := 3) (blt rfl) (isR_mono fo) rfl).set (i := 4) (blt rfl) (isD_mono _) rv



  refine gs_setLcE (i := 5) (own := [("_law_at", 6), ("_law_batch", 7)]) .int g3 rfl scLawCovers.nd (w_enumL B.enumerate (g_v g3 (pv 1) rfl)) (blkOk_by (N := ["_law_kinds", "_law_batches", "_law_wanted", "_law_found", "_law_last", "_law_some", "_law_at", "_law_batch", "_law_kind", "_law_x", "_law_longer", "_law_row", "_law_whole", "_law_more_here", "_law_one"]) (sc := defScope sLawCovers) (by decide +kernel)) (fun _ _ _ _ _ => pg_tup rfl (pgs_cons (pg_name (i := 6) scLawCovers.nd rfl (by first | exact Or.inl rfl | exact Or.inr rfl)) (pgs_cons (pg_name (i := 7) scLawCovers.nd rfl (by first | exact Or.inl rfl | exact Or.inr rfl)) pgs_nil))) (by first | omega | (simp only [List.length_zipIdx]; have := vb.len _ (zipIdx_mem ‹_ ∈ p.2.1.zipIdx›).1; omega) | (simp only [List.length_zipIdx]; omega)) (it_pair g3 (i := 6) (j := 7) (by decide) (by decide) rfl rfl (fun _ => isD_mono _) (fun _ => isD_mono _) (fun a1 ha1 _ _ _ g1 => ⟨b_one fun _ _ _ _ _ => (t_neNil (hu4 hr) (r_lc (own := [("_law_kind", 8), ("_law_x", 9)]) .int rfl scLawCovers.nd (w_enumT B.enumerate (g_v g1 (pv 7) rfl)) (blkOk_by (by kernel_rfl)) (fun _ _ _ _ _ => pg_tup rfl (pgs_cons (pg_name (i := 8) scLawCovers.nd rfl (by first | exact Or.inl rfl | exact Or.inr rfl)) (pgs_cons (pg_name (i := 9) scLawCovers.nd rfl (by first | exact Or.inl rfl | exact Or.inr rfl)) pgs_nil))) (by first | omega | (simp only [List.length_zipIdx]; have := vb.len _ (zipIdx_mem ‹_ ∈ p.2.1.zipIdx›).1; omega) | (simp only [List.length_zipIdx]; omega)) (it_pair g1 (i := 8) (j := 9) (by decide) (by decide) rfl rfl (fun _ => isD_mono _) (fun _ => isD_mono _) (fun a2 ha2 _ _ _ g2 => ⟨b_one fun _ _ _ _ _ => (QT.pt (q_and (t_gt (g_v g2 (pv 9) rfl) r_int) (fun _ => (q_one_and (t_gt (r_ixT (g_v g2 (pv 2) rfl) (g_v g2 (pv 8) rfl) (by exact atI_v (by have := vb.len _ (zipIdx_mem ‹_ ∈ p.2.1.zipIdx›).1; have := zipIdx_lt ‹_ ∈ List.zipIdx (_ : List Int)›; omega))) r_int))))), fun hp2 _ _ _ _ _ => (g_v g2 (pv 8) rfl)⟩))) (by exact shp_lint _)), fun hp1 _ _ _ _ _ => (g_v g1 (pv 6) rfl)⟩)) (d := lint (lsome p.2.1 p.2.2)) (by unfold lsome; simp only [List.length_map, List.length_eq_zero_iff, List.map_eq_nil_iff]) fun σ4 H4 g4 => ?_




  have hslen := lsome_len (B := p.2.1) (wanted := p.2.2)
  refine sw_while PassesOwn.never (fun n σ' H' => ∃ last found, ∃ j : Nat, n + j = p.2.2.sum.toNat + 2 ∧ LW p.1 p.2.1 p.2.2 j last found ∧ lcvLoop p.2.1 p.2.2 n last found = lcvLoop p.2.1 p.2.2 (p.2.2.sum.toNat + 2) [([], zer p.1)] [] ∧
    Sg (fo :: S) [H] [some (isD (.int p.1)), some (isD (lvec p.2.1)), some (isD (vec p.2.2)), some (isR fo), some (isD (.list (last.map prV))), some (isD (lint (lsome p.2.1 p.2.2))), none, none, none, none, none, none, none, none, none] [(fo, lisC (found.map vec))] σ' H')
    (m := p.2.2.sum.toNat + 2) ⟨[([], zer p.1)], [], 0, rfl, LW.zero hw0, rfl, g4⟩ ?_
  rintro n σ5 H5 ⟨last, found, j, hnj, inv, hloop, g5⟩
  refine ⟨_, _, t_neNil (hu4 hr) (g_v g5 (pv 4) rfl) (shp_lprV last), g5.al, fun hb H6 e6 => ?_, fun hb H6 e6 => ?_⟩
  · have hne : ¬ last.length = 0 := by simpa using hb
    have hj := inv.lvl hne
    have g6 := g5.next e6
    have hl1 := inv.l1
    have h84 : 8 ^ j ≤ 8 ^ 4 := Nat.pow_le_pow_right (by decide) (by omega)
    refine gs_set g6 (i := 10) scLawCovers.nd (r_lst (ds := []) ra_nil) (isD_mono _) fun σ7 H7 g7 => ?_
    refine gs_for g7 PassesOwn.never rfl (w_list (enc := prV) (g_v g7 (pv 4) rfl)) (pg_tup rfl (pgs_cons (pg_name (i := 11) scLawCovers.nd rfl (by first | exact Or.inl rfl | exact Or.inr rfl)) (pgs_cons (pg_name (i := 12) scLawCovers.nd rfl (by first | exact Or.inl rfl | exact Or.inr rfl)) pgs_nil))) (fun pre => [some (isD (.int p.1)), some (isD (lvec p.2.1)), some (isD (vec p.2.2)), some (isR fo), some (isD (.list (last.map prV))), some (isD (lint (lsome p.2.1 p.2.2))), none, none, none, none, some (isD (.list ((pre.foldl (lcvStep p.2.1 p.2.2) ([], found)).1.map prV))), none, none, none, none])
      (fun pre => [(fo, lisC ((pre.foldl (lcvStep p.2.1 p.2.2) ([], found)).2.map vec))]) (fun H' g' => g'.le (by walk_at "leg")) (fun B' pre x post hx σ8 H8 v8 g8 hv8 => ?_) (fun σ8 H8 g8 => ?_)
    · have hxm : x ∈ last := by rw [hx]; simp
      have hxr := inv.row x hxm
      have hxc := (sumOf_cr vb hxr.idx).1
      rw [← hxr.sm] at hxc
      have hxl := hxc.len
      have hxl1 := hxr.len
      have hst := lcvStep_fold vb pre 0 found.length ([], found) (fun y hy => inv.row y (by rw [hx]; simp [hy])) ⟨fun _ h => (nomatch h), inv.fd, Nat.zero_le _, Nat.le_refl _⟩
      have hpl : pre.length ≤ 4096 := by
        have := congrArg List.length hx
        rw [List.length_append] at this; omega
      have hl2 := inv.l2
      have h85 : 8 ^ (j + 1) ≤ 8 ^ 5 := Nat.pow_le_pow_right (by decide) (by omega)
      simp only [List.foldl_append, List.foldl_cons, List.foldl_nil]
      generalize pre.foldl (lcvStep p.2.1 p.2.2) ([], found) = st at g8 hst
      simp only [lcvStep_def]
      refine gst_pair (Ra := isD (vec x.1)) (Rb := isD (vec x.2)) g8 rfl rfl (isD_mono _) (isD_mono _) (pair_of hv8) fun σ9 g9 => ?_

      refine gs_for g9 PassesOwn.never rfl (w_list (enc := PyData.int) (xs := latsM p.2.1 p.2.2 x.1) ?_) (pg_name (i := 6) scLawCovers.nd rfl (by first | exact Or.inl rfl | exact Or.inr rfl)) (fun pre2 => [some (isD (.int p.1)), some (isD (lvec p.2.1)), some (isD (vec p.2.2)), some (isR fo), some (isD (.list (last.map prV))), some (isD (lint (lsome p.2.1 p.2.2))), none, none, none, none, some (isD (.list ((pre2.foldl (lcvIn p.2.1 p.2.2 x.1 x.2) st).1.map prV))), some (isD (vec x.1)), some (isD (vec x.2)), none, none])
        (fun pre2 => [(fo, lisC ((pre2.foldl (lcvIn p.2.1 p.2.2 x.1 x.2) st).2.map vec))]) (fun H' g' => g'.le (by walk_at "leg")) (fun B2 pre2 y post2 hy σ10 H10 v10 g10 hv10 => ?_) (fun σ10 H10 g10 => sw_nil (g10.le (by walk_at "leg")))
      · exact r_eq (r_lc (own := [("_law_at", 6)]) (p := fun at_ => decide (x.1 = []) || decide (lastI x.1 ≤ at_)) (f := fun a => a) PyData.int rfl scLawCovers.nd (w_list (g_v g9 (pv 5) rfl)) (blkOk_by (N := ["_law_kinds", "_law_batches", "_law_wanted", "_law_found", "_law_last", "_law_some", "_law_at", "_law_batch", "_law_kind", "_law_x", "_law_longer", "_law_row", "_law_whole", "_law_more_here", "_law_one"]) (sc := defScope sLawCovers) (by decide +kernel)) (fun _ _ _ _ _ => (pg_name (i := 6) scLawCovers.nd rfl (by first | exact Or.inl rfl | exact Or.inr rfl))) (by omega)
        (it_name g9 (j := 6) (by decide) rfl (fun _ => isD_mono _) (fun a ha S' σ' H' gg => ⟨b_one fun _ _ _ _ _ => QT.pt (q_or (t_eq (t_eqD (hu4 hr) (g_v gg (pv 11) rfl) (r_tupI (x := []) ra_nil) (shp_vec _) (shp_vec _)) (by rw [eqv_vec])) (fun h => q_one_or (t_ge (g_v gg (pv 6) rfl) (r_ixT (g_v gg (pv 11) rfl) (r_neg r_int) (atI_last (of_decide_eq_false h)))))), fun _ _ _ _ _ _ => (g_v gg (pv 6) rfl)⟩))) (by rw [map_self])
      have hyi := lats_ok (show y ∈ latsM p.2.1 p.2.2 x.1 by rw [hy]; simp)
      have hyb := vb.len _ (bAt_mem hyi)
      have hst2 := lcvIn_fold hxr pre2 _ _ st (fun i hi => lats_ok (show i ∈ latsM p.2.1 p.2.2 x.1 by rw [hy]; simp [hi])) hst
      have hpl2 : pre2.length ≤ 8 := by
        have := congrArg List.length hy
        have hh := lats_len (B := p.2.1) (wanted := p.2.2) (row := x.1)
        rw [List.length_append] at this; omega
      simp only [List.foldl_append, List.foldl_cons, List.foldl_nil]
      generalize pre2.foldl (lcvIn p.2.1 p.2.2 x.1 x.2) st = st2 at g10 hst2
      have b1 := hst2.l1
      have b2 := hst2.l2
      refine gst_name g10 rfl (isD_mono _) hv10 fun σ11 g11 => ?_



      refine gs_set g11 (i := 13) scLawCovers.nd (r_callD c__law_more (hr.mono (by omega)) (p := (_, _)) rfl (ra_D (g_v g11 (pv 12) rfl) (ra_D (r_ixL (g_v g11 (pv 1) rfl) (g_v g11 (pv 6) rfl) (by exact atI_b hyi)) ra_nil)) (by first | exact ⟨Nat.le_trans (Nat.le_of_eq hxl) h5, hxl.trans hyb.symm⟩ | exact ⟨Nat.le_trans (Nat.le_of_eq hwl) h5, hwl.trans hml.symm⟩)) (isD_mono _) fun σ12 H12 g12 => ?_

      have hml : (addL x.2 (bAt p.2.1 y)).length = p.1 := by rw [addL_len]; omega
      by_cases hc : leB p.2.2 (addL x.2 (bAt p.2.1 y)) = true
      · refine gs_if g12 (t_eq (b' := false) (t_not (t_val (r_callD c__law_within (hr.mono (by omega)) (p := (_, _)) rfl (ra_D (g_v g12 (pv 2) rfl) (ra_D (g_v g12 (pv 13) rfl) ra_nil)) (by first | exact ⟨Nat.le_trans (Nat.le_of_eq hxl) h5, hxl.trans hyb.symm⟩ | exact ⟨Nat.le_trans (Nat.le_of_eq hwl) h5, hwl.trans hml.symm⟩)))) (by rw [hc]; rfl)) (fun h => nomatch h) (fun _ H13 g13 => ?_)

        have hlen1 : x.1.length ≤ 100000 := by omega



        refine gs_if1 g13 (t_eq (b' := decide ((x.1.filter fun one => leB p.2.2 (subL (addL x.2 (bAt p.2.1 y)) (bAt p.2.1 one))) = [])) (t_eqNil (hu4 hr) (r_lc (own := [("_law_one", 14)]) .int rfl scLawCovers.nd (w_tup (g_v g13 (pv 11) rfl)) (blkOk_by (N := ["_law_kinds", "_law_batches", "_law_wanted", "_law_found", "_law_last", "_law_some", "_law_at", "_law_batch", "_law_kind", "_law_x", "_law_longer", "_law_row", "_law_whole", "_law_more_here", "_law_one"]) (sc := defScope sLawCovers) (by decide +kernel)) (fun _ _ _ _ _ => pg_name (i := 14) scLawCovers.nd rfl (by first | exact Or.inl rfl | exact Or.inr rfl)) (by walk_at "sz") (it_name g13 (j := 14) (by decide) rfl (fun _ => isD_mono _) (fun a3 ha3 _ _ _ g3 => ⟨b_one fun _ _ _ _ _ => (t_val (r_callD c__law_within (hr.mono (by omega)) (p := (_, _)) rfl (ra_D (g_v g3 (pv 2) rfl) (ra_D (r_callD c__law_less (hr.mono (by omega)) (p := (_, _)) rfl (ra_D (g_v g3 (pv 13) rfl) (ra_D (r_ixL (g_v g3 (pv 1) rfl) (g_v g3 (pv 14) rfl) (by exact atI_b (hxr.idx _ ‹_›))) ra_nil)) (by first | exact ⟨Nat.le_trans (Nat.le_of_eq hml) h5, hml.trans (vb.len _ (bAt_mem (hxr.idx _ ‹_›))).symm⟩ | exact ⟨Nat.le_trans (Nat.le_of_eq hwl) h5, hwl.trans (by show p.1 = (subL _ _).length; rw [subL_len, hml, vb.len _ (bAt_mem (hxr.idx _ ‹_›)), Nat.min_self])⟩)) ra_nil)) (by first | exact ⟨Nat.le_trans (Nat.le_of_eq hml) h5, hml.trans (vb.len _ (bAt_mem (hxr.idx _ ‹_›))).symm⟩ | exact ⟨Nat.le_trans (Nat.le_of_eq hwl) h5, hwl.trans (by show p.1 = (subL _ _).length; rw [subL_len, hml, vb.len _ (bAt_mem (hxr.idx _ ‹_›)), Nat.min_self])⟩))), fun hp3 _ _ _ _ _ => (g_v g3 (pv 14) rfl)⟩))) (by exact shp_lint _)) (by simp only [List.length_map, List.length_eq_zero_iff])) (fun h H14 g14 => ?_) (fun h H14 g14 => ?_)



        · have e : lcvIn p.2.1 p.2.2 x.1 x.2 st2 y = (st2.1, st2.2 ++ [x.1 ++ [y]]) := by unfold lcvIn; simp only; rw [if_pos hc, if_pos (of_decide_eq_true h)]
          simp only [e]


          refine gs_exprG g14 (e_app (j := 0) (e_of fun _ _ gg => (g_v gg (pv 3) rfl)) rfl (e_of fun _ _ gg => (r_catV (g_v gg (pv 11) rfl) (r_tupI (ra_I (g_v gg (pv 6) rfl) ra_nilI)) (by simp; omega))) rfl (by rw [List.length_map]; omega)) fun H15 g15 => sw_nil (sw_nil (sw_nil ?_))


          rw [List.map_append]
          exact g15.le (by walk_at "leg")
        · have e : lcvIn p.2.1 p.2.2 x.1 x.2 st2 y = st2 := by unfold lcvIn; simp only; rw [if_pos hc, if_neg (of_decide_eq_false h)]
          simp only [e]
          exact sw_nil (sw_nil (g14.le (by walk_at "leg")))

      · refine gs_if g12 (t_eq (b' := true) (t_not (t_val (r_callD c__law_within (hr.mono (by omega)) (p := (_, _)) rfl (ra_D (g_v g12 (pv 2) rfl) (ra_D (g_v g12 (pv 13) rfl) ra_nil)) (by exact ⟨Nat.le_trans (Nat.le_of_eq hwl) h5, hwl.trans hml.symm⟩)))) (by rw [Bool.eq_false_iff.mpr hc]; rfl)) (fun _ H13 g13 => ?_) (fun h => nomatch h)

        have e : lcvIn p.2.1 p.2.2 x.1 x.2 st2 y = (st2.1 ++ (if (x.1.length : Int) + 1 < p.2.2.sum then [(x.1 ++ [y], addL x.2 (bAt p.2.1 y))] else []), st2.2) := by unfold lcvIn; simp only; rw [if_neg hc]
        simp only [e]

        refine gs_set g13 (i := 10) scLawCovers.nd (r_catLe prV (g_v g13 (pv 10) rfl) (y := if (x.1.length : Int) + 1 < p.2.2.sum then [(x.1 ++ [y], addL x.2 (bAt p.2.1 y))] else []) (r_if (t_eq (b' := decide ((x.1.length : Int) + 1 < p.2.2.sum)) (t_lt (r_add (r_lenT B.len (g_v g13 (pv 11) rfl)) r_int) (r_sumT rfl B.sum (g_v g13 (pv 2) rfl))) (by rw [List.length_map])) (fun h => by
          rw [if_pos (of_decide_eq_true h)]
          exact r_lstE prV [_] (ra_D (r_tup (ds := [vec (x.1 ++ [y]), vec (addL x.2 (bAt p.2.1 y))]) (ra_D (r_catV (g_v g13 (pv 11) rfl) (r_tupI (ra_I (g_v g13 (pv 6) rfl) ra_nilI)) (by simp; omega)) (ra_D (g_v g13 (pv 13) rfl) ra_nil))) ra_nil)) (fun h => by
          rw [if_neg (of_decide_eq_false h)]
          exact r_lst (ds := []) ra_nil)) (by split <;> simp <;> omega)) (isD_mono _) fun σ14 H14 g14 => sw_nil (sw_nil ?_)

        exact g14.le (by walk_at "leg")
    · have inv' := inv.step vb hw4 hne
      obtain ⟨m, rfl⟩ : ∃ m, n = m + 1 := ⟨n - 1, by omega⟩
      rw [lcvLoop_succ hne] at hloop
      generalize last.foldl (lcvStep p.2.1 p.2.2) ([], found) = st at g8 inv' hloop
      refine gs_set g8 (i := 4) scLawCovers.nd (g_v g8 (pv 10) rfl) (isD_mono _) fun σ9 H9 g9 => sw_nil ⟨m, Nat.lt_succ_self m, st.1, st.2, j + 1, by omega, inv', hloop, ?_⟩
      exact g9.le (by walk_at "leg")
  · have hne : last = [] := by
      have : last.length = 0 := by simpa using hb
      exact List.length_eq_zero_iff.mp this
    have g6 := g5.next e6
    subst hne
    rw [lcvLoop_nil] at hloop
    have hfd := inv.fd
    subst hloop
    have g7 := g6.freeze (S := S) (i := 3) (j := 0) (fun b hb => List.mem_cons_of_mem _ hb) hfo rfl rfl (fun q hq => nomatch hq)
    exact gs_ret g7 (r_eq (r_sortV B.sorted (g_v g7 (pv 3) rfl) fun c hc => (hfd c hc).ne) (by unfold lcovers; rfl)) fun v H' g' r => fin_D g' (fun _ h => h) r hR
end
end N34

set_option Elab.async false
set_option linter.all false
set_option maxRecDepth 100000
set_option maxHeartbeats 1000000
/-! _law_wrong_sums, _law_part -/
namespace N34
open PySem PySem.Spec PyProof.Rows L2
theorem t_notG {X : Cx} {S : List Addr} {Bs : List Hp} {Γ : Ga} {M M' : Ce} {c : Expr} {pos : Pos} {x : Bool} (h : PT X c (tGT S Bs Γ M M' x)) : PT X (.UnaryOp .Not c pos) (tGT S Bs Γ M M' (!x)) := PT_imp (pt_not h) fun σ H Q ⟨g, k⟩ => ⟨g, fun H2 g2 e2 => k H2 g2 e2⟩
structure LsI (k : Nat) (n : Nat) (st : List (List Int) × Kb) : Prop where
  bx : BxOk k 20 (st.2.map (·.1))
  few : st.1.length ≤ n
theorem lwsIn_ok {k : Nat} {B : List (List Int)} (vb : VB k B) {n : Nat} {b : List Int} {st : List (List Int) × Kb} {c : List Int} (hb : b ∈ B) (hc : c ∈ lcovers k B b) (h : LsI k n st) : LsI k (n + 1) (lwsIn k B b st c) := by
  have hl := vb.len _ hb
  have h4 := vb.sm _ hb
  have h5 := vb.ps _ hb
  have ok := (lcovers_all vb h5 h4).1 c hc
  obtain ⟨h1, h2⟩ := sumOf_cr vb ok.idx
  have h3 := ok.len
  have h6 := sub_cr h1 hl ok.cov
  have h7 := sub_sum (h1.len.trans hl.symm)
  have hf := h.few
  unfold lwsIn
  refine ⟨(lcl_step vb 20 _ _ h6 (by omega) (by omega) h.bx).bx, ?_⟩
  show (if (lclM B 20 (subL (sumOf k B c) b) st.2).1 = true then st.1 else st.1 ++ [sumOf k B c]).length ≤ n + 1
  split
  · omega
  · rw [List.length_append]; simp; omega
theorem lwsIn_fold {k : Nat} {B : List (List Int)} (vb : VB k B) {b : List Int} (hb : b ∈ B) : ∀ (pre : List (List Int)) (n : Nat) (st : List (List Int) × Kb), (∀ c ∈ pre, c ∈ lcovers k B b) → LsI k n st → LsI k (n + pre.length) (pre.foldl (lwsIn k B b) st)
  | [], _, _, _, h => h
  | c :: pre, n, st, hp, h => by
    have := lwsIn_fold vb hb pre (n + 1) _ (fun d hd => hp d (List.mem_cons_of_mem _ hd)) (lwsIn_ok vb hb (hp c List.mem_cons_self) h)
    rw [List.foldl_cons, List.length_cons, show n + (pre.length + 1) = n + 1 + pre.length by omega]
    exact this
theorem lwsStep_fold {k : Nat} {B : List (List Int)} (vb : VB k B) : ∀ (pre : List (List Int)) (n : Nat) (st : List (List Int) × Kb), (∀ b ∈ pre, b ∈ B) → LsI k n st → LsI k (n + pre.length * 4681) (pre.foldl (lwsStep k B) st)
  | [], n, _, _, h => by simpa using h
  | b :: pre, n, st, hp, h => by
    have hb := hp b List.mem_cons_self
    have h1 := lwsIn_fold vb hb (lcovers k B b) n st (fun _ h => h) h
    have h2 := (lcovers_all vb (vb.ps _ hb) (vb.sm _ hb)).2
    have h3 : LsI k (n + 4681) (lwsStep k B st b) := by unfold lwsStep; exact ⟨h1.bx, by have := h1.few; omega⟩
    have := lwsStep_fold vb pre (n + 4681) _ (fun d hd => hp d (List.mem_cons_of_mem _ hd)) h3
    rw [List.foldl_cons, List.length_cons, show n + (pre.length + 1) * 4681 = n + 4681 + pre.length * 4681 by omega]
    exact this
local macro_rules | `(tactic| walk_at "sz") => `(tactic| first | omega | (simp only [List.length_zip, List.length_map, List.length_range, List.length_zipIdx]; omega) | exact ⟨by omega, by omega⟩)
local macro_rules | `(tactic| walk_at "leg") => `(tactic| repeat (first | exact LeG.nil | apply LeG.keep | apply LeG.drop))
local macro_rules | `(tactic| walk_at "sd") => `(tactic| first | trivial | assumption | omega)
section
variable {P : Program} {w : World} {K : PySem.W.Frag} {mg : Str → Option Value} {base : Heap} {C : Addr}
abbrev kB (p : Nat × List (List Int)) : List RV := [isD (.int p.1), isD (lvec p.2)]
abbrev sLws := spF (spD kB (fun p => VB p.1 p.2) fun p => lvec (wrongM p.1 p.2))



-- def _law_wrong_sums _law_kinds:i _law_batches:lv
theorem scLawWrongSums : FnScope ["_law_kinds", "_law_batches", "_law_found", "_law_known", "_law_batch", "_law_row", "_law_whole"] ["_law_kinds", "_law_batches"] (defScope sLawWrongSums) := ⟨rfl, rfl, rfl, by decide +kernel, rfl, by decide +kernel, by decide +kernel⟩
theorem ok_wrongSums (B : Bl mg) (F : FnAt K mg "_law_wrong_sums" sLawWrongSums) (c__law_less : Cl P w K mg base "_law_less" 1 ["_law_one", "_law_other"] lLe) (c__law_sum : Cl P w K mg base "_law_sum" 2 ["_law_kinds", "_law_batches", "_law_row"] lSm) (c__law_covers : Cl P w K mg base "_law_covers" 2 ["_law_kinds", "_law_batches", "_law_wanted"] sLcv)
    (c_clears : Cl P w K mg base "_law_clears" 22 ["_law_batches", "_law_crowd", "_law_known"] (sLcl 20)) : Cl P w K mg base "_law_wrong_sums" 23 ["_law_kinds", "_law_batches"] sLws := by
  refine cl_D F scLawWrongSums (fun p => ⟨isD_mono _, isD_mono _, trivial⟩) (fun _ => rfl) (by decide) (fun _ _ _ _ _ _ us hl => match us, hl with | [_, _], _ => rfl) (fun f cdv A outer s H σ S R E p hr g hs hR => ?_)
  have vb : VB p.1 p.2 := hs
  have h5 := vb.le
  have h8 := vb.few
  have k4 := vb.le4
  refine sx_par2 (i := 2) (j := 3) rfl scLawWrongSums.nd (se_newL (ds := []) g ra_nil fun fo H1 hfo g1 => se_newD (en := enB) g1 enB_mono fun kn H2 hkn g2 => ?_)
  have g3 := (g2.set (i := 2) (blt rfl) (isR_mono fo) rfl).set (i := 3) (blt rfl) (isR_mono kn) rfl
  refine gs_for g3 PassesOwn.never rfl (w_list (g_v g3 (pv 1) rfl)) (pg_name (i := 4) scLawWrongSums.nd rfl (by first | exact Or.inl rfl | exact Or.inr rfl)) (fun pre => [some (isD (.int p.1)), some (isD (lvec p.2)), some (isR fo), some (isR kn), none, none, none]) (fun pre => [(kn, dicC enB (pre.foldl (lwsStep p.1 p.2) ([], [])).2), (fo, lisC ((pre.foldl (lwsStep p.1 p.2) ([], [])).1.map vec))]) (fun H' g' => g'.le (by walk_at "leg")) (fun B' pre b post hb σ4 H4 v g4 hv => ?_) (fun σ4 H4 g4 => ?_)
  · have hbB : b ∈ p.2 := by rw [hb]; simp
    have hbl := vb.len _ hbB
    have hbp := vb.ps _ hbB
    have hbs := vb.sm _ hbB
    have hst := lwsStep_fold vb pre 0 ([], []) (fun r hr => by rw [hb]; simp [hr]) ⟨BxOk.nil, Nat.zero_le _⟩
    have hpl : pre.length ≤ 8 := by
      have := congrArg List.length hb
      rw [List.length_append] at this; omega
    simp only [List.foldl_append, List.foldl_cons, List.foldl_nil]
    generalize pre.foldl (lwsStep p.1 p.2) ([], []) = st at g4 hst
    have est : lwsStep p.1 p.2 st b = (lcovers p.1 p.2 b).foldl (lwsIn p.1 p.2 b) st := by unfold lwsStep; rfl
    simp only [est]
    obtain ⟨hcov, hfew⟩ := lcovers_all vb hbp hbs
    refine gst_name g4 rfl (isD_mono _) hv fun σ5 g5 => ?_

    refine gs_for g5 PassesOwn.never rfl (w_list (r_callD c__law_covers (hr.mono (by omega)) (p := (_, _, _)) rfl (ra_D (g_v g5 (pv 0) rfl) (ra_D (g_v g5 (pv 1) rfl) (ra_D (g_v g5 (pv 4) rfl) ra_nil))) (by exact ⟨vb, hbl, vb.nn _ hbB, hbp, hbs⟩))) (pg_name (i := 5) scLawWrongSums.nd rfl (by first | exact Or.inl rfl | exact Or.inr rfl)) (fun _ => [some (isD (.int p.1)), some (isD (lvec p.2)), some (isR fo), some (isR kn), some (isD (vec b)), none, none]) (fun pre2 => [(kn, dicC enB (pre2.foldl (lwsIn p.1 p.2 b) st).2), (fo, lisC ((pre2.foldl (lwsIn p.1 p.2 b) st).1.map vec))]) (fun H' g' => g'.le (by walk_at "leg")) (fun B2 pre2 c post2 hc σ6 H6 v2 g6 hv2 => ?_) (fun σ6 H6 g6 => sw_nil (g6.le (by walk_at "leg")))

    have hc' : lcovers p.1 p.2 b = pre2 ++ c :: post2 := hc
    have ok := hcov c (by rw [hc']; simp)
    have hst2 := lwsIn_fold vb hbB pre2 _ st (fun d hd => by rw [hc']; simp [hd]) hst
    have hpl2 : pre2.length ≤ 4681 := by
      have := congrArg List.length hc'
      rw [List.length_append] at this; omega
    simp only [List.foldl_append, List.foldl_cons, List.foldl_nil]
    generalize pre2.foldl (lwsIn p.1 p.2 b) st = st2 at g6 hst2
    obtain ⟨i1, i2⟩ := sumOf_cr vb ok.idx
    have i3 := ok.len
    have i6 := sub_cr i1 hbl ok.cov
    have i7 := sub_sum (i1.len.trans hbl.symm)
    have hf2 := hst2.few
    have est2 : lwsIn p.1 p.2 b st2 c = (if (lclM p.2 20 (subL (sumOf p.1 p.2 c) b) st2.2).1 = true then st2.1 else st2.1 ++ [sumOf p.1 p.2 c], (lclM p.2 20 (subL (sumOf p.1 p.2 c) b) st2.2).2) := by unfold lwsIn; rfl
    simp only [est2]
    refine gst_name g6 rfl (isD_mono _) hv2 fun σ7 g7 => ?_

    refine gs_set g7 (i := 6) scLawWrongSums.nd (r_callD c__law_sum (hr.mono (by omega)) (p := (_, _, _)) rfl (ra_D (g_v g7 (pv 0) rfl) (ra_D (g_v g7 (pv 1) rfl) (ra_D (g_v g7 (pv 5) rfl) ra_nil))) (by first | exact ⟨vb, ok.idx, by dsimp only; omega⟩ | exact ⟨Nat.le_trans (Nat.le_of_eq i1.len) h5, i1.len.trans hbl.symm⟩)) (isD_mono _) fun σ8 H8 g8 => ?_
    generalize hx : subL (sumOf p.1 p.2 c) b = x at *
    generalize sumOf p.1 p.2 c = whole at *
    refine gs_ifG (x := !(lclM p.2 20 x st2.2).1) (M' := [(kn, dicC enB (lclM p.2 20 x st2.2).2), (fo, lisC (st2.1.map vec))]) g8 (t_notG (t_valG (e_callE (M1 := [(kn, dicC enB st2.2)]) (M2 := [(fo, lisC (st2.1.map vec))]) (M1' := [(kn, dicC enB (lclM p.2 20 x st2.2).2)]) (Rz := isD (.bool (lclM p.2 20 x st2.2).1)) c_clears hr (ea_of fun _ _ gg => ra_D (g_v gg (pv 1) rfl) (ra_D (r_eq (d' := vec x) (r_callD c__law_less (hr.mono (by omega)) (p := (_, _)) rfl (ra_D (g_v gg (pv 6) rfl) (ra_D (g_v gg (pv 4) rfl) ra_nil)) (by first | exact ⟨vb, ok.idx, by dsimp only; omega⟩ | exact ⟨Nat.le_trans (Nat.le_of_eq i1.len) h5, i1.len.trans hbl.symm⟩)) (by rw [hx])) (ra_cons (isR_mono kn) (g_v gg (pv 3) rfl) ra_nil))) (fun vs F h => ⟨p.1, p.2, x, kn, st2.2, h, vb, i6, by omega, by omega, hst2.bx, rfl, rfl, fun _ _ h => h⟩) rfl))) (fun hb2 H9 g9 => ?_) (fun hb2 H9 g9 => ?_)

    · have hb' : ¬ (lclM p.2 20 x st2.2).1 = true := by simpa using hb2
      simp only [if_neg hb']

      refine gs_exprG g9 (e_app (j := 1) (e_of fun _ _ gg => (g_v gg (pv 2) rfl)) rfl (e_of fun _ _ gg => (g_v gg (pv 6) rfl)) rfl (by rw [List.length_map]; omega)) fun H10 g10 => sw_nil (sw_nil ?_)

      rw [List.map_append]
      exact g10.le (by walk_at "leg")
    · have hb' : (lclM p.2 20 x st2.2).1 = true := by simpa using hb2
      simp only [if_pos hb']
      exact sw_nil (sw_nil (g9.le (by walk_at "leg")))
  · have g5 := g4.freeze (S := kn :: S) (i := 2) (j := 1) (fun b hb => by simp only [List.mem_cons] at hb ⊢; rcases hb with h | h <;> simp [h]) (fun z => (List.mem_cons.mp z).elim (fun e => hkn (by rw [e]; exact List.mem_cons_self)) hfo) rfl rfl (fun p hp => by simp only [List.eraseIdx, List.mem_cons, List.not_mem_nil, or_false] at hp; rw [hp]; exact List.mem_cons_self)
    exact gs_ret g5 (r_eq (g_v g5 (pv 2) rfl) (by unfold wrongM; rfl)) fun v H' g' r => fin_D g' (fun b hb => List.mem_cons_of_mem _ hb) r hR
abbrev sLpt := spF (spD (fun p : List (List Int) × List Int => [isD (lvec p.1), isD (vec p.2)]) (fun p => (∀ b ∈ p.1, ∀ i ∈ p.2, 0 ≤ i ∧ i < b.length) ∧ p.1.length ≤ 100 ∧ p.2.length ≤ 100) fun p => lvec (chosenM p.1 p.2))
-- def _law_part _law_batches:lv _law_lot:v
theorem scLawPart : FnScope ["_law_batches", "_law_lot", "_law_kind", "_law_batch"] ["_law_batches", "_law_lot"] (defScope sLawPart) := ⟨rfl, rfl, rfl, by decide +kernel, rfl, by decide +kernel, by decide +kernel⟩
theorem ok_lawPart (B : Bl mg) (F : FnAt K mg "_law_part" sLawPart) : Cl P w K mg base "_law_part" 1 ["_law_batches", "_law_lot"] sLpt := by
  refine cl_D F scLawPart (fun p => ⟨isD_mono _, isD_mono _, trivial⟩) (fun _ => rfl) (by decide) (fun _ _ _ _ _ _ us hl => match us, hl with | [_, _], _ => rfl) (fun f cdv A outer s H σ S R E p hr g hs hR => ?_)
  obtain ⟨h1, h2, h3⟩ := hs
  have h2' : p.1.length ≤ 100 := h2
  have h3' : p.2.length ≤ 100 := h3

  exact gs_ret g (r_eq (r_lc (own := [("_law_batch", 3)]) vec rfl scLawPart.nd (w_list (g_v g (pv 0) rfl)) (blkOk_by (N := ["_law_batches", "_law_lot", "_law_kind", "_law_batch"]) (sc := defScope sLawPart) (by decide +kernel)) (fun _ _ _ _ _ => pg_name (i := 3) scLawPart.nd rfl (by first | exact Or.inl rfl | exact Or.inr rfl)) (by walk_at "sz") (it_name g (j := 3) (by decide) rfl (fun _ => isD_mono _) (fun a1 ha1 _ _ _ g1 => ⟨b_one fun _ _ _ _ _ => (t_eqI (r_sum rfl B.sum (r_lcA (own := [("_law_kind", 2)]) .int rfl scLawPart.nd (w_tup (g_v g1 (pv 1) rfl)) (blkOk_by (by kernel_rfl)) (fun _ _ _ _ _ => pg_name (i := 2) scLawPart.nd rfl (by first | exact Or.inl rfl | exact Or.inr rfl)) (by walk_at "sz") (it_name g1 (j := 2) (by decide) rfl (fun _ => isD_mono _) (fun a3 ha3 _ _ _ g3 => ⟨b_nil, fun hp3 _ _ _ _ _ => (r_ixT (g_v g3 (pv 3) rfl) (g_v g3 (pv 2) rfl) (by exact atI_v (h1 _ ‹_› _ ‹_›)))⟩)))) (r_sumT rfl B.sum (g_v g1 (pv 3) rfl))), fun hp1 _ _ _ _ _ => (r_tupleL B.tuple (r_lcA (own := [("_law_kind", 2)]) .int rfl scLawPart.nd (w_tup (g_v g1 (pv 1) rfl)) (blkOk_by (by kernel_rfl)) (fun _ _ _ _ _ => pg_name (i := 2) scLawPart.nd rfl (by first | exact Or.inl rfl | exact Or.inr rfl)) (by walk_at "sz") (it_name g1 (j := 2) (by decide) rfl (fun _ => isD_mono _) (fun a2 ha2 _ _ _ g2 => ⟨b_nil, fun hp2 _ _ _ _ _ => (r_ixT (g_v g2 (pv 3) rfl) (g_v g2 (pv 2) rfl) (by exact atI_v (h1 _ ‹_› _ ‹_›)))⟩))))⟩))) (by unfold chosenM; rw [show cut p.2 = fun b => p.2.map fun j => vAt b j from funext fun b => cut_def])) fun v H' g' r => fin_D g' (fun _ h => h) r hR

end
end N34

set_option Elab.async false
set_option linter.all false
set_option maxRecDepth 100000
set_option maxHeartbeats 1000000
/-! _law_ends -/
namespace N34
open PySem PySem.Spec PyProof.Rows L2
theorem lrests_ok {k : Nat} {B : List (List Int)} (vb : VB k B) {w r : List Int} (hw : CrOk k w) (h : r ∈ lrests B w) : CrOk k r ∧ r.sum ≤ w.sum - 1 ∧ ∃ b ∈ B, leB b w = true ∧ r = subL w b := by
  unfold lrests at h
  obtain ⟨b, hb, rfl⟩ := List.mem_map.mp h
  obtain ⟨h1, h2⟩ := List.mem_filter.mp hb
  have hl := vb.len _ h1
  have hp := vb.ps _ h1
  have hs := sub_sum (hw.len.trans hl.symm)
  exact ⟨sub_cr hw hl h2, by omega, b, h1, h2, rfl⟩
structure EJ (k s : Nat) (j : Int) (n : Nat) (st : LE) : Prop where
  bx : BxOk k s (st.seen.map (·.1))
  lt : ∀ w ∈ st.later, w ∈ st.seen.map (·.1) ∧ w.sum ≤ s - j
  ct : st.found.length + n + st.later.length ≤ st.seen.length
  fd : ∀ w ∈ st.found, CrOk k w
structure EL (k s : Nat) (j : Int) (n : Nat) (st : CvF × List (List Int)) : Prop where
  bx : BxOk k s (st.1.map (·.1))
  lt : ∀ w ∈ st.2, w ∈ st.1.map (·.1) ∧ w.sum ≤ s - j
  ct : n + st.2.length ≤ st.1.length
theorem lendIn_ok {k s : Nat} {j : Int} {n : Nat} {st : CvF × List (List Int)} {r : List Int} (hr : CrOk k r) (hs : r.sum ≤ s - j) (hj : 0 ≤ j) (h : EL k s j n st) : EL k s j n (lendIn st r) ∧ ∀ x ∈ st.1.map (·.1), x ∈ (lendIn st r).1.map (·.1) := by
  unfold lendIn
  split
  · exact ⟨h, fun _ h => h⟩
  · rename_i hn
    refine ⟨⟨h.bx.put hr (by omega), fun x hx => ?_, ?_⟩, fun x hx => key_pt.mpr (.inl hx)⟩
    · have hx' : x ∈ st.2 ++ [r] := hx
      rcases List.mem_append.mp hx' with z | z
      · exact ⟨key_pt.mpr (.inl (h.lt x z).1), (h.lt x z).2⟩
      · rw [List.mem_singleton.mp z]; exact ⟨key_pt.mpr (.inr rfl), hs⟩
    · show n + (st.2 ++ [r]).length ≤ (pt st.1 r ()).length
      rw [pt_len_new hn, List.length_append]; have := h.ct; simp; omega
theorem lendIn_fold {k s : Nat} {j : Int} {n : Nat} (hj : 0 ≤ j) : ∀ (pre : List (List Int)) (st : CvF × List (List Int)), (∀ r ∈ pre, CrOk k r ∧ r.sum ≤ s - j) → EL k s j n st → EL k s j n (pre.foldl lendIn st) ∧ ∀ x ∈ st.1.map (·.1), x ∈ (pre.foldl lendIn st).1.map (·.1)
  | [], _, _, h => ⟨h, fun _ h => h⟩
  | r :: pre, st, hp, h => by
    obtain ⟨h1, h2⟩ := lendIn_ok (hp r List.mem_cons_self).1 (hp r List.mem_cons_self).2 hj h
    obtain ⟨h3, h4⟩ := lendIn_fold hj pre _ (fun q hq => hp q (List.mem_cons_of_mem _ hq)) h1
    exact ⟨h3, fun x hx => h4 x (h2 x hx)⟩
theorem lendStep_ok {k s : Nat} {B : List (List Int)} (vb : VB k B) {j : Int} (hj : 0 ≤ j) {n : Nat} {w : List Int} {st : LE} (hw : w ∈ st.seen.map (·.1)) (hs : w.sum ≤ s - j) (h : EJ k s (j + 1) (n + 1) st) : EJ k s (j + 1) n (lendStep B st w) ∧ ∀ x ∈ st.seen.map (·.1), x ∈ (lendStep B st w).seen.map (·.1) := by
  have hc := (h.bx.cr w hw).1
  have hct := h.ct
  obtain ⟨g, hsub⟩ := lendIn_fold (k := k) (s := s) (j := j + 1) (n := st.found.length + (n + 1)) (by omega) (lrests B w) (st.seen, st.later) (fun r hr => by
    obtain ⟨h1, h2, _⟩ := lrests_ok vb hc hr
    exact ⟨h1, by omega⟩) ⟨h.bx, h.lt, h.ct⟩
  have e : lendStep B st w = ⟨((lrests B w).foldl lendIn (st.seen, st.later)).1, if (lrests B w).length = 0 then st.found ++ [w] else st.found, ((lrests B w).foldl lendIn (st.seen, st.later)).2⟩ := by unfold lendStep; rfl
  rw [e]
  generalize (lrests B w).foldl lendIn (st.seen, st.later) = r at g hsub ⊢
  have hg := g.ct
  refine ⟨⟨g.bx, g.lt, ?_, fun v hv => ?_⟩, hsub⟩
  · show (if (lrests B w).length = 0 then st.found ++ [w] else st.found).length + n + r.2.length ≤ r.1.length
    split
    · rw [List.length_append]; simp; omega
    · omega
  · have hv' : v ∈ (if (lrests B w).length = 0 then st.found ++ [w] else st.found) := hv
    split at hv'
    · rcases List.mem_append.mp hv' with z | z
      · exact h.fd v z
      · rw [List.mem_singleton.mp z]; exact hc
    · exact h.fd v hv'
theorem lendStep_fold {k s : Nat} {B : List (List Int)} (vb : VB k B) {j : Int} (hj : 0 ≤ j) {n : Nat} : ∀ (pre : List (List Int)) (st : LE), (∀ w ∈ pre, w ∈ st.seen.map (·.1) ∧ w.sum ≤ s - j) → EJ k s (j + 1) (n + pre.length) st → EJ k s (j + 1) n (pre.foldl (lendStep B) st) ∧ ∀ x ∈ st.seen.map (·.1), x ∈ (pre.foldl (lendStep B) st).seen.map (·.1)
  | [], _, _, h => ⟨h, fun _ h => h⟩
  | w :: pre, st, hp, h => by
    obtain ⟨h1, h2⟩ := lendStep_ok (n := n + pre.length) vb hj (hp w List.mem_cons_self).1 (hp w List.mem_cons_self).2 h
    obtain ⟨h3, h4⟩ := lendStep_fold vb hj (n := n) pre _ (fun v hv => ⟨h2 v (hp v (List.mem_cons_of_mem _ hv)).1, (hp v (List.mem_cons_of_mem _ hv)).2⟩) h1
    exact ⟨h3, fun x hx => h4 x (h2 x hx)⟩
/-- at the head of the loop -/
structure EI (k s j : Nat) (fresh : List (List Int)) (seen : CvF) (found : List (List Int)) : Prop where
  bx : BxOk k s (seen.map (·.1))
  fr : ∀ w ∈ fresh, w ∈ seen.map (·.1) ∧ w.sum ≤ s - j
  ct : found.length + fresh.length ≤ seen.length
  fd : ∀ w ∈ found, CrOk k w
theorem EI.start {k s j : Nat} {fresh : List (List Int)} {seen : CvF} {found : List (List Int)} (h : EI k s j fresh seen found) : EJ k s ((j : Int) + 1) fresh.length ⟨seen, found, []⟩ := ⟨h.bx, fun _ h => (nomatch h), by have := h.ct; simpa using this, h.fd⟩
theorem EI.step {k s j : Nat} {B : List (List Int)} (vb : VB k B) {fresh : List (List Int)} {seen : CvF} {found : List (List Int)} (h : EI k s j fresh seen found) :
    EI k s (j + 1) (fresh.foldl (lendStep B) ⟨seen, found, []⟩).later (fresh.foldl (lendStep B) ⟨seen, found, []⟩).seen (fresh.foldl (lendStep B) ⟨seen, found, []⟩).found := by
  obtain ⟨g, _⟩ := lendStep_fold vb (j := j) (n := 0) (by omega) fresh ⟨seen, found, []⟩ h.fr (by rw [Nat.zero_add]; exact h.start)
  exact ⟨g.bx, fun w hw => ⟨(g.lt w hw).1, by have := (g.lt w hw).2; omega⟩, by have := g.ct; omega, g.fd⟩
theorem EI.zero {k s : Nat} {x : List Int} (hx : CrOk k x) (hs : x.sum ≤ s) : EI k s 0 [x] [(x, ())] [] :=
  ⟨⟨by simp, fun y hy => by simp at hy; rw [hy]; exact ⟨hx, hs⟩⟩, fun w hw => by rw [List.mem_singleton.mp hw]; exact ⟨by simp, by omega⟩, Nat.le_refl 1, fun _ h => nomatch h⟩
theorem EI.lvl {k s j : Nat} {fresh : List (List Int)} {seen : CvF} {found : List (List Int)} (h : EI k s j fresh seen found) (hf : ¬ fresh.length = 0) : j ≤ s := by
  cases fresh with
  | nil => exact absurd rfl hf
  | cons w fresh =>
    obtain ⟨h1, h2⟩ := h.fr w List.mem_cons_self
    have := sum_nn (h.bx.cr w h1).1.nn
    omega
theorem seen_few {k s : Nat} {seen : CvF} (h : BxOk k s (seen.map (·.1))) (hk : k ≤ 4) (hs : s ≤ 8) : seen.length ≤ 6561 := by
  have h1 : (seen.map (·.1)).length ≤ (s + 1) ^ k := h.few
  rw [List.length_map] at h1
  have h2 : (s + 1) ^ k ≤ 9 ^ k := Nat.pow_le_pow_left (by omega) k
  have h3 : 9 ^ k ≤ 9 ^ 4 := Nat.pow_le_pow_right (by decide) hk
  omega
theorem lendLoop_nil {B : List (List Int)} {seen : CvF} {found : List (List Int)} : ∀ n, lendLoop B n [] seen found = found
  | 0 => rfl
  | n + 1 => rfl
theorem lendLoop_succ {B : List (List Int)} {n : Nat} {fresh : List (List Int)} {seen : CvF} {found : List (List Int)} (h : ¬ fresh.length = 0) :
    lendLoop B (n + 1) fresh seen found = lendLoop B n (fresh.foldl (lendStep B) ⟨seen, found, []⟩).later (fresh.foldl (lendStep B) ⟨seen, found, []⟩).seen (fresh.foldl (lendStep B) ⟨seen, found, []⟩).found := by rw [lendLoop, if_neg h]
/-- an if without else whose ways join -/
theorem gs_ifJ {X : Cx} {S : List Addr} {Bs : List Hp} {Γ : Ga} {M : Ce} {σ : L2.St} {H : Hp} {D : Ends} {c : Expr} {A rest : List Stmt} {pos : Pos} {x : Bool} (Γ2 : Ga) (M2 : Ce) (g : Sg S Bs Γ M σ H) (hc : PT X c (tRT S σ H x))
    (h1 : x = true → ∀ H', Sg S Bs Γ M σ H' → SW X { D with nx := fun σ' H' => Sg S Bs Γ2 M2 σ' H' } A σ H') (h2 : x = false → ∀ H', Sg S Bs Γ M σ H' → Sg S Bs Γ2 M2 σ H') (k : ∀ σ' H', Sg S Bs Γ2 M2 σ' H' → SW X D rest σ' H') : SW X D (.If c A [] pos :: rest) σ H :=
  gs_if1 g hc (fun h H' g' => SW_mono (h1 h H' g') (fun σ H g2 => k σ H g2) fun _ _ z => z) fun h H' g' => k _ _ (h2 h H' g')
local macro_rules | `(tactic| walk_at "sz") => `(tactic| first | omega | (simp only [List.length_zip, List.length_map, List.length_range, List.length_zipIdx]; omega) | exact ⟨by omega, by omega⟩)
local macro_rules | `(tactic| walk_at "leg") => `(tactic| repeat (first | exact LeG.nil | apply LeG.keep | apply LeG.drop))
local macro_rules | `(tactic| walk_at "sd") => `(tactic| first | trivial | assumption | omega)
section
variable {P : Program} {w : World} {K : PySem.W.Frag} {mg : Str → Option Value} {base : Heap} {C : Addr}
abbrev bxL (p : Nat × List (List Int) × List Int) : List RV := [isD (lvec p.2.1), isD (vec p.2.2)]
abbrev sLen := spF (spD bxL wyS fun p => lvec (lendsM p.2.1 p.2.2))


-- def _law_ends _law_batches:lv _law_crowd:v
theorem scLawEnds : FnScope ["_law_batches", "_law_crowd", "_law_seen", "_law_fresh", "_law_found", "_law_later", "_law_waiting", "_law_rests", "_law_batch", "_law_rest"] ["_law_batches", "_law_crowd"] (defScope sLawEnds) := ⟨rfl, rfl, rfl, by decide +kernel, rfl, by decide +kernel, by decide +kernel⟩
theorem ok_lawEnds (B : Bl mg) (F : FnAt K mg "_law_ends" sLawEnds) (c__law_less : Cl P w K mg base "_law_less" 1 ["_law_one", "_law_other"] lLe) (c__law_within : Cl P w K mg base "_law_within" 1 ["_law_one", "_law_other"] lWi) : Cl P w K mg base "_law_ends" 2 ["_law_batches", "_law_crowd"] sLen := by
  refine cl_D F scLawEnds (fun p => ⟨isD_mono _, isD_mono _, trivial⟩) (fun _ => rfl) (by decide) (fun _ _ _ _ _ _ us hl => match us, hl with | [_, _], _ => rfl) (fun f cdv A outer s0 H σ S R E p hr g hs hR => ?_)
  obtain ⟨vb, hx, hs8⟩ : wyS p := hs
  have h5 := vb.le
  have k4 := vb.le4
  have h8 := vb.few
  obtain ⟨s, hs⟩ : ∃ s : Nat, p.2.2.sum = s := ⟨p.2.2.sum.toNat, by have := sum_nn hx.nn; omega⟩
  refine sx_par3 (i := 2) (j := 3) (l := 4) rfl scLawEnds.nd (se_newD1 (en := enU) (kc := p.2.2) (bv := ()) g (hu1 hr) enU_mono (fun S' M' H' gg => (g_v gg (pv 1) rfl)) (fun S' M' H' gg => r_bl) fun d H1 hd g1 => se_g g1 (R := isD (lvec [p.2.2])) (r_lstE vec [_] (ra_D (g_v g1 (pv 1) rfl) ra_nil)) fun v H2 g2 e2 rv => se_newL (ds := []) g2.base ra_nil fun fo H3 hfo g3 => ?_)
  have e3 : Ex (hid (d :: S) H2) (hid (fo :: d :: S) H3) := fun a o h => by
    have h1 := g3.ex _ List.mem_cons_self a o h
    rw [hid_out]
    · exact h1
    · intro z
      rcases List.mem_cons.mp z with e | z
      · have := (g3.ce (fo, lisC []) List.mem_cons_self).2.1 _ List.mem_cons_self
        rw [e, this] at h; cases h
      · exact (hid_some h).1 z
  have g4 := ((g3.unbase.set (i := 2) (blt rfl) (isR_mono d) rfl).set (i := 3) (v := v) (blt rfl) (isD_mono _) (rv.mono e3)).set (i := 4) (blt rfl) (isR_mono fo) rfl
  refine sw_while PassesOwn.never (fun n σ' H' => ∃ fresh seen found, ∃ j : Nat, n + j = s + 2 ∧ EI p.1 s j fresh seen found ∧ lendLoop p.2.1 n fresh seen found = lendLoop p.2.1 (s + 2) [p.2.2] [(p.2.2, ())] [] ∧
    Sg (fo :: d :: S) [H] [some (isD (lvec p.2.1)), some (isD (vec p.2.2)), some (isR d), some (isD (lvec fresh)), some (isR fo), none, none, none, none, none] [(fo, lisC (found.map vec)), (d, dicC enU seen)] σ' H')
    (m := s + 2) ⟨[p.2.2], [(p.2.2, ())], [], 0, rfl, EI.zero hx (by omega), rfl, g4⟩ ?_
  rintro n σ4 H4 ⟨fresh, seen, found, j, hnj, inv, hloop, g4⟩


  refine ⟨_, _, t_neNil (hu4 hr) (g_v g4 (pv 3) rfl) (shp_lvec _), g4.al, fun hb H5 e5 => ?_, fun hb H5 e5 => ?_⟩
  · have hne : ¬ fresh.length = 0 := by simpa using hb
    have hj := inv.lvl hne
    have g5 := g4.next e5
    refine gs_newL (i := 5) (ds := []) g5 scLawEnds.nd ra_nil fun la σ6 H6 hla g6 => ?_
    refine gs_for g6 PassesOwn.never rfl (w_list (g_v g6 (pv 3) rfl)) (pg_name (i := 6) scLawEnds.nd rfl (by first | exact Or.inl rfl | exact Or.inr rfl)) (fun _ => [some (isD (lvec p.2.1)), some (isD (vec p.2.2)), some (isR d), some (isD (lvec fresh)), some (isR fo), some (isR la), none, none, none, none]) (fun pre => [(la, lisC ((pre.foldl (lendStep p.2.1) ⟨seen, found, []⟩).later.map vec)), (fo, lisC ((pre.foldl (lendStep p.2.1) ⟨seen, found, []⟩).found.map vec)), (d, dicC enU (pre.foldl (lendStep p.2.1) ⟨seen, found, []⟩).seen)]) (fun H' g' => g'.le (by walk_at "leg")) (fun B' pre x post hpx σ7 H7 v7 g7 hv7 => ?_) (fun σ7 H7 g7 => ?_)
    · have hxm : x ∈ fresh := by rw [hpx]; simp
      have hlen : fresh.length = post.length + 1 + pre.length := by rw [hpx]; simp; omega
      obtain ⟨hst, hsub⟩ := lendStep_fold vb (k := p.1) (s := s) (j := (j : Int)) (n := post.length + 1) (by omega) pre ⟨seen, found, []⟩ (fun y hy => inv.fr y (by rw [hpx]; simp [hy])) (by rw [← hlen]; exact inv.start)
      have hxk := hsub x (inv.fr x hxm).1
      simp only [List.foldl_append, List.foldl_cons, List.foldl_nil]
      generalize pre.foldl (lendStep p.2.1) ⟨seen, found, []⟩ = st at g7 hst hxk
      have est : lendStep p.2.1 st x = ⟨((lrests p.2.1 x).foldl lendIn (st.seen, st.later)).1, if (lrests p.2.1 x).length = 0 then st.found ++ [x] else st.found, ((lrests p.2.1 x).foldl lendIn (st.seen, st.later)).2⟩ := by unfold lendStep; rfl
      simp only [est]
      have hxc := (hst.bx.cr x hxk).1
      have hxl := hxc.len
      have hfw := seen_few hst.bx k4 (by omega)
      have hct := hst.ct
      refine gst_name g7 rfl (isD_mono _) hv7 fun σ8 g8 => ?_


      refine gs_setLcE (i := 7) (own := [("_law_batch", 8)]) vec g8 rfl scLawEnds.nd (w_list (g_v g8 (pv 0) rfl)) (blkOk_by (N := ["_law_batches", "_law_crowd", "_law_seen", "_law_fresh", "_law_found", "_law_later", "_law_waiting", "_law_rests", "_law_batch", "_law_rest"]) (sc := defScope sLawEnds) (by decide +kernel)) (fun _ _ _ _ _ => pg_name (i := 8) scLawEnds.nd rfl (by first | exact Or.inl rfl | exact Or.inr rfl)) (by walk_at "sz") (it_name g8 (j := 8) (by decide) rfl (fun _ => isD_mono _) (fun a1 ha1 _ _ _ g1 => ⟨b_one fun _ _ _ _ _ => (t_val (r_callD c__law_within (hr.mono (by omega)) (p := (_, _)) rfl (ra_D (g_v g1 (pv 8) rfl) (ra_D (g_v g1 (pv 6) rfl) ra_nil)) (by first | exact ⟨Nat.le_trans (Nat.le_of_eq (vb.len _ ‹_›)) h5, (vb.len _ ‹_›).trans hxl.symm⟩ | exact ⟨Nat.le_trans (Nat.le_of_eq hxl) h5, hxl.trans (vb.len _ ‹_›).symm⟩))), fun hp1 _ _ _ _ _ => (r_callD c__law_less (hr.mono (by omega)) (p := (_, _)) rfl (ra_D (g_v g1 (pv 6) rfl) (ra_D (g_v g1 (pv 8) rfl) ra_nil)) (by first | exact ⟨Nat.le_trans (Nat.le_of_eq (vb.len _ ‹_›)) h5, (vb.len _ ‹_›).trans hxl.symm⟩ | exact ⟨Nat.le_trans (Nat.le_of_eq hxl) h5, hxl.trans (vb.len _ ‹_›).symm⟩))⟩)) (d := lvec (lrests p.2.1 x)) (by unfold lrests; rfl) fun σ9 H9 g9 => ?_

      have hrl : (lrests p.2.1 x).length ≤ 8 := by
        unfold lrests
        rw [List.length_map]
        exact Nat.le_trans (List.length_filter_le _ _) h8
      refine gs_ifJ [some (isD (lvec p.2.1)), some (isD (vec p.2.2)), some (isR d), some (isD (lvec fresh)), some (isR fo), some (isR la), some (isD (vec x)), some (isD (lvec (lrests p.2.1 x))), none, none]
        [(la, lisC (st.later.map vec)), (fo, lisC ((if (lrests p.2.1 x).length = 0 then st.found ++ [x] else st.found).map vec)), (d, dicC enU st.seen)] g9 (t_eq (b' := decide ((lrests p.2.1 x).length = 0)) (t_eqNil (hu4 hr) (g_v g9 (pv 7) rfl) (by exact shp_lvec _)) (by rw [List.length_map])) (fun h H10 g10 => ?_) (fun h H10 g10 => ?_) (fun σ10 H10 g10 => ?_)
      · rw [if_pos (of_decide_eq_true h)]

        refine gs_exprG g10 (e_app (j := 1) (e_of fun _ _ gg => (g_v gg (pv 4) rfl)) rfl (e_of fun _ _ gg => (g_v gg (pv 6) rfl)) rfl (by rw [List.length_map]; omega)) fun H11 g11 => sw_nil ?_

        rw [List.map_append]
        exact g11.le (by walk_at "leg")
      · rw [if_neg (of_decide_eq_false h)]
        exact g10.le (by walk_at "leg")
      generalize (if (lrests p.2.1 x).length = 0 then st.found ++ [x] else st.found) = fnd at g10 ⊢
      refine gs_for g10 PassesOwn.never rfl (w_list (g_v g10 (pv 7) rfl)) (pg_name (i := 9) scLawEnds.nd rfl (by first | exact Or.inl rfl | exact Or.inr rfl)) (fun _ => [some (isD (lvec p.2.1)), some (isD (vec p.2.2)), some (isR d), some (isD (lvec fresh)), some (isR fo), some (isR la), some (isD (vec x)), some (isD (lvec (lrests p.2.1 x))), none, none]) (fun pre2 => [(la, lisC ((pre2.foldl lendIn (st.seen, st.later)).2.map vec)), (fo, lisC (fnd.map vec)), (d, dicC enU (pre2.foldl lendIn (st.seen, st.later)).1)]) (fun H' g' => g'.le (by walk_at "leg")) (fun B2 pre2 y post2 hy σ11 H11 v11 g11 hv11 => ?_) (fun σ11 H11 g11 => sw_nil (g11.le (by walk_at "leg")))
      obtain ⟨hst2, _⟩ := lendIn_fold (k := p.1) (s := s) (j := (j : Int) + 1) (n := st.found.length + (post.length + 1)) (by omega) pre2 (st.seen, st.later) (fun r hr => by
        obtain ⟨q1, q2, _⟩ := lrests_ok vb hxc (show r ∈ lrests p.2.1 x by rw [hy]; simp [hr])
        have := (inv.fr x hxm).2
        exact ⟨q1, by omega⟩) ⟨hst.bx, hst.lt, hst.ct⟩
      simp only [List.foldl_append, List.foldl_cons, List.foldl_nil]
      generalize pre2.foldl lendIn (st.seen, st.later) = st2 at g11 hst2
      have hfw2 := seen_few hst2.bx k4 (by omega)
      have hct2 := hst2.ct
      refine gst_name g11 rfl (isD_mono _) hv11 fun σ12 g12 => ?_
      refine gs_if1 g12 (t_ninT g12 (hu1 hr) (j := 2) rfl (g_v g12 (pv 9) rfl) (g_v g12 (pv 2) rfl)) (fun hb2 H13 g13 => ?_) (fun hb2 H13 g13 => ?_)
      · have hn : ¬ (lk st2.1 y).isSome = true := by simpa using hb2
        have e2 : lendIn st2 y = (pt st2.1 y (), st2.2 ++ [y]) := by unfold lendIn; rw [if_neg hn]
        simp only [e2]
        refine gs_dput g13 (hu1 hr) enU_mono (en := enU) (kc := y) (bv := ()) (e_of fun _ _ gg => r_bl) (fun _ _ gg => (g_v gg (pv 2) rfl)) (fun _ _ gg => (g_v gg (pv 9) rfl)) (j := 2) rfl (by omega) fun H14 g14 => ?_

        refine gs_exprG g14 (e_app (j := 0) (e_of fun _ _ gg => (g_v gg (pv 5) rfl)) rfl (e_of fun _ _ gg => (g_v gg (pv 9) rfl)) rfl (by rw [List.length_map]; omega)) fun H15 g15 => sw_nil (sw_nil ?_)

        rw [List.map_append]
        exact g15.le (by walk_at "leg")
      · have hn : (lk st2.1 y).isSome = true := by simpa using hb2
        have e2 : lendIn st2 y = st2 := by unfold lendIn; rw [if_pos hn]
        simp only [e2]
        exact sw_nil (g13.le (by walk_at "leg"))
    · have inv' := inv.step vb (B := p.2.1)
      obtain ⟨m, rfl⟩ : ∃ m, n = m + 1 := ⟨n - 1, by omega⟩
      rw [lendLoop_succ hne] at hloop
      generalize fresh.foldl (lendStep p.2.1) ⟨seen, found, []⟩ = st at g7 inv' hloop
      refine gs_set g7 (i := 3) scLawEnds.nd (g_v g7 (pv 5) rfl) (isR_mono _) fun σ8 H8 g8 => sw_nil ⟨m, Nat.lt_succ_self m, st.later, st.seen, st.found, j + 1, by omega, inv', hloop, ?_⟩
      exact (g8.freeze (S := fo :: d :: S) (i := 3) (j := 0) (fun b hb => List.mem_cons_of_mem _ hb) hla rfl rfl (fun q hq => by simp only [List.eraseIdx, List.mem_cons, List.not_mem_nil, or_false] at hq; rcases hq with rfl | rfl <;> simp)).le (by walk_at "leg")
  · have hne : fresh = [] := by
      have : fresh.length = 0 := by simpa using hb
      exact List.length_eq_zero_iff.mp this
    have g5 := g4.next e5
    subst hne
    rw [lendLoop_nil] at hloop
    have hfd := inv.fd
    have hpos := vb.pos
    subst hloop
    have g6 := g5.freeze (S := d :: S) (i := 4) (j := 0) (fun b hb => List.mem_cons_of_mem _ hb) hfo rfl rfl (fun q hq => by simp only [List.eraseIdx, List.mem_cons, List.not_mem_nil, or_false] at hq; rw [hq]; exact List.mem_cons_self)
    exact gs_ret g6 (r_eq (r_sortV B.sorted (g_v g6 (pv 4) rfl) fun c hc e => by have := (hfd c hc).len; rw [e] at this; simp at this; omega) (by unfold lendsM; rw [hs]; rfl)) fun v H' g' r => fin_D g' (fun _ h => List.mem_cons_of_mem _ h) r hR
end
end N34

set_option Elab.async false
set_option linter.all false
set_option maxRecDepth 100000
set_option maxHeartbeats 1000000
/-! lists that are cells: read, walked, stored to, made by a comprehension -/
namespace N34
open PySem PySem.Spec PyProof.Rows L2
theorem DtA.setAt {H : Hp} {v : V} {d : PyData} (hd : Dt H v d) : ∀ {vs : List V} {ds : List PyData} (n : Nat), DtA H vs ds → DtA H (vs.set n v) (ds.set n d)
  | _, _, _, .nil => .nil
  | _, _, 0, .cons _ r => .cons hd r
  | _, _, n + 1, .cons h r => .cons h (DtA.setAt hd n r)
section
variable {X : Cx} {S : List Addr} {Bs : List Hp} {Γ : Ga} {M M' M1 M2 : Ce} {R Ra Rb Rz : RV} {a b e c o elt tg iter value : Expr} {es ifs : List Expr} {pos p : Pos} {d : PyData} {ds : List PyData} {σ σ0 : L2.St} {H H0 : Hp} {α β : Type} {scope : Scope} {l : Addr} {i j : Nat} {D : Ends} {rest : List Stmt}
theorem g_ixC {k : Int} (g : Sg S Bs Γ M σ H) (hM : M[j]? = some (l, lisC ds)) (ha : PE X a (tR S σ H (isR l))) (hb : PE X b (tR S σ H (isD (.int k)))) (h : atI ds k = some d) (hs : PlainIx b := by exact fun _ _ => rfl) : PE X (.Subscript a b pos) (tR S σ H (isD d)) :=
  PE_imp (pe_ix ix_list ha hb hs) fun σ' H' Q ⟨q, ex, al, kk⟩ => ⟨q, ex, al, fun x H1 e1 rx => ⟨q, ex.trans e1, al.ex e1, fun y H2 e2 ry => by
    obtain rfl : x = .ref l := rx
    obtain ⟨hS, _, _, o, ho, xs, rfl, dx⟩ := g.ce (l, lisC ds) (List.mem_of_getElem? hM)
    have e3 := (ex.trans e1).trans e2
    unfold atI at h
    cases q : ixN ds.length k with
    | none => rw [q] at h; cases h
    | some n =>
      rw [q] at h
      obtain ⟨v, hv, hd⟩ := dx.get (show ds[n]? = some d from h)
      exact ⟨l, xs, k, v, rfl, ry.intI, SqL.of (e3 _ _ ho), by unfold atI; rw [dx.length, q]; exact hv, kk _ _ (e1.trans e2) (hd.mono (hid_ex e3))⟩⟩⟩
theorem g_lenC (g : Sg S Bs Γ M σ H) (hM : M[j]? = some (l, lisC ds)) (hm : X.mg "len" = none) (ha : PE X a (tR S σ H (isR l))) (hg : Gl X "len" := by rfl) (hs : starEach [a] X.env = (false, eval a X.env) :: starEach [] X.env := by rfl) : PE X (.Call (.Name "len" p) [a] [] pos) (tR S σ H (isD (.int ds.length))) :=
  r_callB call_len_seq hm boot_len (ra_cons (isR_mono l) ha ra_nil hs) (fun vs H' e _ h Q k => by
    obtain ⟨v, ws, rfl, h1, h2⟩ := h
    obtain rfl : v = .ref l := h1
    obtain rfl : ws = [] := h2
    obtain ⟨_, _, _, o, ho, xs, rfl, dx⟩ := g.ce (l, lisC ds) (List.mem_of_getElem? hM)
    refine ⟨l, xs, rfl, .inl (SqL.of (e _ _ ho)), ?_⟩
    rw [dx.length]; exact k _ H' (Ex.refl _) (.int _)) hg (he := hs)
/-- a cell walked while nothing changes -/
theorem w_listC {xs : List α} {enc : α → PyData} (g : Sg S Bs Γ M σ H) (hM : M[j]? = some (l, lisC (xs.map enc))) (h : PE X e (tR S σ H (isR l))) : PI X tg e (tWE S σ H xs fun x => isD (enc x)) :=
  PI_imp (pi_list h) fun σ' H' Q ⟨q, ex, al, k⟩ => ⟨q, ex, al, fun v H1 e1 r => by
    obtain rfl : v = .ref l := r
    obtain ⟨hS, _, _, o, ho, vs, rfl, dx⟩ := g.ce (l, lisC (xs.map enc)) (List.mem_of_getElem? hM)
    have h3 : H1 l = some (.lst vs) := e1 _ _ (ex _ _ ho)
    have h4 : DtA (hid S H1) vs (xs.map enc) := dx.mono (hid_ex (ex.trans e1))
    have hl : vs.length = xs.length := by rw [h4.length, List.length_map]
    refine ⟨l, rfl, ⟨vs, SqL.of h3⟩, k _ _ e1 ⟨fun i S' H hi e0 e _ => ⟨vs, vs[i]'(by rw [hl]; exact hi), SqL.of (e0 _ _ h3), by simp [hl, hi]⟩, fun S' H e0 e _ => ⟨vs, SqL.of (e0 _ _ h3), by rw [hl]; exact Nat.le_refl _⟩, fun i a S' H x H' hi e0 e _ y => ?_⟩⟩
    obtain ⟨y1, y2⟩ := y
    rw [y1]
    obtain ⟨v, hv, hd⟩ := h4.get (i := i) (d := enc a) (by rw [List.getElem?_map, hi]; rfl)
    have := y2 vs (SqL.of (e0 _ _ h3))
    rw [hv] at this
    cases this
    exact ⟨Ex.refl _, hd.mono e⟩⟩
/-- l[k] = value, l a cell -/
theorem gs_lput {k : Int} {n : Nat} {ii : Expr} {pos' : Pos} (g : Sg S Bs Γ M σ H) (hv : PE X value (tR S σ H (isD d))) (ho : ∀ H, Sg S Bs Γ M σ H → PE X o (tR S σ H (isR l))) (hi : ∀ H, Sg S Bs Γ M σ H → PE X ii (tR S σ H (isD (.int k)))) (hM : M[j]? = some (l, lisC ds)) (hn : ixN ds.length k = some n)
    (kk : ∀ H', Sg S Bs Γ (M.set j (l, lisC (ds.set n d))) σ H' → SW X D rest σ H') (hs : swapsWithSole [.Subscript o ii pos'] value pos.line X.env = pure false := by rfl) (hw : swappedStores [.Subscript o ii pos'] value X.env = pure none := by rfl)
    (h1 : (assignEach [.Subscript o ii pos'] X.env).map (·.2) = [assign (.Subscript o ii pos') X.env] := by rfl)
    (ha : ∀ v, assign (.Subscript o ii pos') X.env v = (do
      let ov ← holding [v] (eval o X.env)
      let iv ← holding [v, ov] (eval ii X.env)
      standAt pos'
      holding [v, ov, iv] (setItem ov iv v)
      release [v, ov, iv] []) := by intro _; rfl) : SW X D (.Assign [.Subscript o ii pos'] value pos :: rest) σ H :=
  sw_cons (ps_asg pe_SE (pg_sub pe_SE pe_SE set_list ha) hs hw h1) (se_g g hv fun v H1 g1 e1 rv => se_g g1 (ho H1 g1) fun x H2 g2 e2 rx => se_g g2 (hi H2 g2) fun y H3 g3 e3 ry => by
    obtain rfl : x = .ref l := rx
    obtain rfl := ry.intI
    obtain ⟨hS, _, _, o3, ho3, xs, rfl, dx⟩ := g3.ce (l, lisC ds) (List.mem_of_getElem? hM)
    have dv : Dt (hid S H3) v d := (rv.mono (hid_ex e2)).mono (hid_ex e3)
    have hset : DtA (hid S H3) (xs.set n v) (ds.set n d) := dx.setAt dv n
    exact ⟨l, xs, k, n, rfl, rfl, ho3, by rw [dx.length]; exact hn, kk _ (g3.put hM (lisC_mono _) ⟨_, rfl, hset⟩)⟩)
/-- the reading of a comprehension whose list becomes a cell -/
theorem lc_C {xs : List α} {enc : α → RV} {g : TG} {vs : List Nat} {p : α → Bool} {f : α → PyData} {wi : TI} (hwi : wi = tWE S σ0 H0 xs enc) (hl : xs.length ≤ 100000)
    (h : ∀ a ∈ xs, ∀ S' H v, Up S H0 S' H → enc a v (hid S' H) → Item X scope elt ifs g vs (wipe σ0 vs) S' H v (p a) (f a)) (σ : L2.St) (H : Hp) (Q : VK)
    (hq : σ = σ0 ∧ Ex H0 H ∧ Al S H ∧ ∀ D H2 acc, Ex H H2 → H D = none → H2 D = some (.lst acc) → DtA (hid (D :: S) H2) acc ((xs.filter p).map f) → Q (.ref D) H2) : tLc wi g (ttB X scope ifs) (teB X scope elt) vs σ H Q := by
  subst hwi
  obtain ⟨es, ex, al, k⟩ := hq
  subst es
  refine ⟨rfl, ex, al, fun J H1 e1 W => fun D hD => ?_⟩
  have aD : D ∉ S := (al.ex e1).out hD
  refine ⟨fun m n Hm => n = xs.length - m ∧ m ≤ xs.length ∧ Ex H1 Hm ∧ Al S Hm ∧ ∃ acc, Hm D = some (.lst acc) ∧ DtA (hid (D :: S) Hm) acc (((xs.take m).filter p).map f), ⟨xs.length, by simp, Nat.zero_le _, Ex.new hD, Al.upd (al.ex e1) .lst, [], upd_same, by simp; exact .nil⟩, ?_⟩
  rintro m n Hm ⟨rfl, hm, eH, alm, acc, hacc, dacc⟩
  have alD : Al (D :: S) Hm := alm.cons hacc .lst
  have eF : Ex (hid S H1) (hid (D :: S) Hm) := hid_cons eH hD
  have hlen : acc.length ≤ 100000 := by
    rw [dacc.length, List.length_map]
    refine Nat.le_trans (List.length_filter_le _ _) ?_
    rw [List.length_take]; omega
  by_cases hlt : m < xs.length
  · refine .inr ⟨W.goes m _ _ hlt eH eF alD, fun Hx => m + 1 ≤ xs.length ∧ Ex H1 Hx ∧ Al S Hx ∧ ∃ acc, Hx D = some (.lst acc) ∧ DtA (hid (D :: S) Hx) acc (((xs.take (m + 1)).filter p).map f), fun H' ⟨a, b, c, dd⟩ => ⟨xs.length - (m + 1), by omega, rfl, a, b, c, dd⟩, fun x H' y => ?_⟩
    have hget : xs[m]? = some xs[m] := by simp [hlt]
    obtain ⟨e2, en⟩ := W.yields m xs[m] (D :: S) Hm x H' hget eH eF alD y
    have u3 : Up S H0 (D :: S) H' := ⟨((ex.trans e1).trans eH).trans e2, fun b hb => List.mem_cons_of_mem _ hb, fun b hb => (List.mem_cons.mp hb).elim (fun z => .inr (by rw [z]; exact (ex.trans e1).free hD)) .inl, alD.ex e2⟩
    obtain ⟨σ', w1, gs, ht, he⟩ := (h xs[m] (List.getElem_mem hlt) (D :: S) H' x u3 en).ex
    refine gs _ ⟨w1, ttB_of ht (alD.ex e2) fun H3 e4 => ?_⟩
    have tk := take_succ hget
    have d3 : DtA (hid (D :: S) H3) acc (((xs.take m).filter p).map f) := (dacc.mono (hid_ex e2)).mono (hid_ex e4)
    have a3 : H3 D = some (.lst acc) := e4 _ _ (e2 _ _ hacc)
    cases hp : p xs[m] with
    | true =>
      rw [if_pos rfl]
      rw [hp] at he
      refine teB_of ((fun s H C cl fp => PE_mono e4 (he rfl s H C cl fp))) ((alD.ex e2).ex e4) fun y H4 e5 dy => ?_
      refine ⟨acc, e5 _ _ a3, szlt (by
        have : acc.length = (((xs.take m).filter p).map f).length := dacc.length
        rw [List.length_map] at this
        have z := List.length_filter_le p (xs.take m)
        rw [List.length_take] at z; omega), hlt, ((eH.trans e2).trans (e4.trans e5)).mut hD, Al.upd ((alm.ex e2).ex (e4.trans e5)) .lst, acc ++ [y], upd_same, ?_⟩
      rw [hid_upd List.mem_cons_self, tk, List.filter_append, List.map_append]
      have q1 : ([xs[m]] : List α).filter p = [xs[m]] := by simp [hp]
      rw [q1]
      exact (d3.mono (hid_ex e5)).append (.cons dy .nil)
    | false =>
      rw [if_neg Bool.false_ne_true]
      refine ⟨hlt, (eH.trans e2).trans e4, (alm.ex e2).ex e4, acc, a3, ?_⟩
      rw [tk, List.filter_append]
      have q1 : ([xs[m]] : List α).filter p = [] := by simp [hp]
      rw [q1, List.append_nil]
      exact d3
  · have em : m = xs.length := by omega
    subst em
    rw [List.take_length] at dacc
    exact .inl ⟨W.stops _ _ eH eF alD, k D _ acc (e1.trans eH) (e1.free hD) hacc dacc⟩
theorem gs_setLcC {xs : List α} {enc : α → RV} {gg : TG} {own : List (Str × Nat)} {f : α → PyData} {i : Nat} {y : Str} {py : Pos} {spos : Pos} (g : Sg S Bs Γ M σ H) (hc : X.calm = true) (hN : X.N.Nodup)
    (hi : PI X tg iter (tWE S σ H xs enc)) (ok : BlkOk X.N X.env.scope scope own) (hg : Blk X scope fun Y => PG Y tg gg) (hl : xs.length ≤ 100000)
    (h : ∀ a ∈ xs, ∀ S' H' v, Up S H S' H' → enc a v (hid S' H') → Item X scope elt ifs gg (own.map (·.2)) (L2.wipe σ (own.map (·.2))) S' H' v true (f a))
    (k : ∀ l σ' H', l ∉ S → Sg (l :: S) Bs (Γ.set i (some (isR l))) ((l, lisC (xs.map f)) :: M) σ' H' → SW X D rest σ' H') (hy : X.N[i]? = some y := by rfl) (hli : Nat.blt i Γ.length = true := by rfl) (hyl : X.env.scope.names.lookup y = some .local := by rfl)
    (hsw : swapsWith (.ListComp elt [⟨tg, iter, ifs, 0⟩] scope pos) (some (.Name y py)) spos.line X.env = pure true := by exact sw_true rfl rfl rfl (by decide +kernel)) (hs : ∀ x, foldedSetIterable iter X.env x = pure x := by intro _; rfl) :
    SW X D (.Assign [.Name y py] (.ListComp elt [⟨tg, iter, ifs, 0⟩] scope pos) spos :: rest) σ H :=
  sw_cons (ps_setLc hc hN hy hyl hsw hi ok hg pts_ttB pe_teB hs) (lc_C (f := f) rfl hl h σ H _ ⟨rfl, Ex.refl _, g.al, fun D H2 acc e hD ho dd => by
    rw [List.filter_eq_self.mpr (fun _ _ => rfl)] at dd
    exact k D _ _ (g.al.out hD) ((g.cell e hD ho (lisC_mono _) ⟨acc, rfl, dd⟩).set (blt hli) (isR_mono D) rfl)⟩)
theorem se_lcC {xs : List α} {enc : α → RV} {gg : TG} {own : List (Str × Nat)} {f : α → PyData} {Q : VK} (g : Sg S Bs Γ M σ H) (hc : X.calm = true) (hN : X.N.Nodup) (hi : PI X tg iter (tWE S σ H xs enc)) (ok : BlkOk X.N X.env.scope scope own) (hg : Blk X scope fun Y => PG Y tg gg) (hl : xs.length ≤ 100000)
    (h : ∀ a ∈ xs, ∀ S' H' v, Up S H S' H' → enc a v (hid S' H') → Item X scope elt ifs gg (own.map (·.2)) (L2.wipe σ (own.map (·.2))) S' H' v true (f a))
    (k : ∀ l H', l ∉ S → Sg (l :: S) Bs Γ ((l, lisC (xs.map f)) :: M) σ H' → Q (.ref l) H') (hs : ∀ x, foldedSetIterable iter X.env x = pure x := by intro _; rfl) : SE X (.ListComp elt [⟨tg, iter, ifs, 0⟩] scope pos) σ H Q :=
  se_of (pe_lc hc hN hi ok hg pts_ttB pe_teB hs) (lc_C (f := f) rfl hl h σ H _ ⟨rfl, Ex.refl _, g.al, fun D H2 acc e hD ho dd => by
    rw [List.filter_eq_self.mpr (fun _ _ => rfl)] at dd
    exact k D _ (g.al.out hD) (g.cell e hD ho (lisC_mono _) ⟨acc, rfl, dd⟩)⟩)
theorem rgV_ints (n : Int) : rgV 0 n = ((List.range n.toNat).map fun j : Nat => ((j : Nat) : Int)).map V.int := by
  unfold rgV
  rw [Int.sub_zero, List.map_map]
  exact List.map_congr_left fun j _ => by show V.int (0 + (j : Nat)) = V.int (j : Nat); rw [Int.zero_add]
theorem prg_mono {e : Expr} {t t' : L2.St → Hp → (Int → Int → Hp → Prop) → Prop} (h : PRg X e t) (f : ∀ σ H Q, t' σ H Q → t σ H Q) : PRg X e t' := fun pins s σ H Q I q => h pins s σ H Q I (f _ _ _ q)
theorem r_listRg {n : Int} {p1 p2 pos2 : Pos} (hc : X.calm = true) (hm : X.mg "list" = none) (hm2 : X.mg "range" = none) (ha : PE X a (tR S σ0 H0 (isD (.int n)))) (hn : 0 ≤ n ∧ n ≤ 100000) (hg : Gl X "list" := by rfl) (hg2 : Gl X "range" := by rfl)
    (na2 : starEach [a] X.env = (false, eval a X.env) :: starEach [] X.env := by rfl) (na : starEach [.Call (.Name "range" p2) [a] [] pos2] X.env = (false, eval (.Call (.Name "range" p2) [a] [] pos2) X.env) :: starEach [] X.env := by rfl) :
    PE X (.Call (.Name "list" p1) [.Call (.Name "range" p2) [a] [] pos2] [] pos) (tR S σ0 H0 (isD (lint ((List.range n.toNat).map fun j : Nat => ((j : Nat) : Int))))) :=
  PE_imp (pe_listRg hc hg hm (prg_1 hg2 hm2 ha na2) na) fun σ H Q ⟨q, ex, al, k⟩ => ⟨q, ex, al, fun v H1 e1 r => ⟨n, r.intI, RgOk.of_le (by decide) (by omega) (by decide) hn.1, fun l hl => k _ _ (e1.trans (Ex.new hl)) (.lst (hid_new (al.ex e1) hl) (by rw [rgV_ints]; exact .of_ints _))⟩⟩
theorem se_listRg {n : Int} {Q : VK} {p1 p2 pos2 : Pos} (g : Sg S Bs Γ M σ H) (hc : X.calm = true) (hm : X.mg "list" = none) (hm2 : X.mg "range" = none) (ha : PE X a (tR S σ H (isD (.int n)))) (hn : 0 ≤ n ∧ n ≤ 100000)
    (k : ∀ l H1, l ∉ S → Sg (l :: S) Bs Γ ((l, lisC (((List.range n.toNat).map fun j : Nat => ((j : Nat) : Int)).map .int)) :: M) σ H1 → Q (.ref l) H1) (hg : Gl X "list" := by rfl) (hg2 : Gl X "range" := by rfl)
    (na2 : starEach [a] X.env = (false, eval a X.env) :: starEach [] X.env := by rfl) (na : starEach [.Call (.Name "range" p2) [a] [] pos2] X.env = (false, eval (.Call (.Name "range" p2) [a] [] pos2) X.env) :: starEach [] X.env := by rfl) :
    SE X (.Call (.Name "list" p1) [.Call (.Name "range" p2) [a] [] pos2] [] pos) σ H Q :=
  se_of (pe_listRg hc hg hm (prg_1 hg2 hm2 ha na2) na) ⟨rfl, Ex.refl _, g.al, fun v H1 e1 r => ⟨n, r.intI, RgOk.of_le (by decide) (by omega) (by decide) hn.1, fun l hl => k l _ ((g.al.ex e1).out hl) (g.fresh e1 hl (lisC_mono _) ⟨_, rfl, by rw [rgV_ints]; exact .of_ints _⟩)⟩⟩
end
end N34

set_option Elab.async false
set_option linter.all false
set_option maxRecDepth 100000
set_option maxHeartbeats 1000000
/-! _law_lots -/
namespace N34
open PySem PySem.Spec PyProof.Rows L2
section
variable {X : Cx} {S : List Addr} {Bs : List Hp} {Γ : Ga} {M : Ce} {σ : L2.St} {H : Hp} {D : Ends} {tg iter : Expr} {rest : List Stmt} {pos : Pos} {α : Type}
/-- a for loop in which further cells come -/
theorem gs_forX {xs : List α} {enc : α → RV} {gg : TG} {body : List Stmt} (P : List α → List Addr → Ga → Ce → Prop) (g : Sg S Bs Γ M σ H) (hp : PassesOwn (model X.prog X.w) X.A X.env X.xe) (hc : X.calm = true) (hi : PI X tg iter (tW S σ H xs enc)) (hg : PG X tg gg) (h0 : P [] S Γ M)
    (h : ∀ B pre x post, xs = pre ++ x :: post → ∀ L Γ' M', (∀ a ∈ S, a ∈ L) → P pre L Γ' M' → ∀ σ' H' v, Sg L (B :: Bs) Γ' M' σ' H' → enc x v (hid S H') →
        Stored gg v σ' H' fun σ2 => SW X { D with nx := fun σ3 H3 => ∃ L' Γ2 M2, (∀ a ∈ S, a ∈ L') ∧ P (pre ++ [x]) L' Γ2 M2 ∧ Sg L' (B :: Bs) Γ2 M2 σ3 H3, ct := fun σ3 H3 => ∃ L' Γ2 M2, (∀ a ∈ S, a ∈ L') ∧ P (pre ++ [x]) L' Γ2 M2 ∧ Sg L' (B :: Bs) Γ2 M2 σ3 H3, bk := fun σ3 H3 => SW X D rest σ3 H3 } body σ2 H')
    (hd : ∀ L Γ' M', (∀ a ∈ S, a ∈ L) → P xs L Γ' M' → ∀ σ' H', Sg L Bs Γ' M' σ' H' → SW X D rest σ' H') (hs : ∀ x, foldedSetIterable iter X.env x = pure x := by intro _; rfl) : SW X D (.For tg iter body [] pos :: rest) σ H := by
  refine sw_for hp hc g.al hi hg (fun H1 e1 al1 => ⟨fun pre σ' H' => ∃ L Γ' M', (∀ a ∈ S, a ∈ L) ∧ P pre L Γ' M' ∧ Sg L (hid S H1 :: Bs) Γ' M' σ' H', ⟨S, Γ, M, fun _ h => h, h0, (g.next e1).base⟩, fun pre x post hx σ' H' eF al' ⟨L, Γ', M', hL, pv, gz⟩ v H2 e2 al2 en => ?_, fun σ' H' _ _ ⟨L, Γ', M', hL, pv, gz⟩ => hd L Γ' M' hL pv σ' H' gz.unbase⟩) hs
  obtain ⟨σ2, gs, q⟩ := (h (hid S H1) pre x post hx L Γ' M' hL pv σ' H2 v (gz.next e2) en).ex
  have cv : ∀ σ3 H3, (∃ L' Γ2 M2, (∀ a ∈ S, a ∈ L') ∧ P (pre ++ [x]) L' Γ2 M2 ∧ Sg L' (hid S H1 :: Bs) Γ2 M2 σ3 H3) → Ex (hid S H1) (hid S H3) ∧ Al S H3 ∧ ∃ L' Γ2 M2, (∀ a ∈ S, a ∈ L') ∧ P (pre ++ [x]) L' Γ2 M2 ∧ Sg L' (hid S H1 :: Bs) Γ2 M2 σ3 H3 := fun σ3 H3 ⟨L', Γ2, M2, hL', p', g3⟩ =>
    ⟨fun a o z => by rw [hid_out (hid_some z).1]; exact g3.ex _ List.mem_cons_self _ _ z, fun a ha => g3.al a (hL' a ha), L', Γ2, M2, hL', p', g3⟩
  refine ⟨σ2, gs, ⟨fun pins s I => wpAny_mono (q.run pins s I) (fun f s' z => ?_) fun _ _ z => z⟩⟩
  cases f with
  | next => obtain ⟨σ', H', I', q⟩ := z; exact ⟨σ', H', I', cv _ _ q⟩
  | brk => exact z
  | cont => obtain ⟨σ', H', I', q⟩ := z; exact ⟨σ', H', I', cv _ _ q⟩
  | ret u => exact z
end
/-! ### plain -/
structure LtI (k : Nat) (l : List Int) : Prop where
  len : l.length = k
  rg : ∀ x ∈ l, 0 ≤ x ∧ x < k
theorem vAt_lt {k : Nat} {l : List Int} (h : LtI k l) {j : Int} (hj : 0 ≤ j ∧ j < k) : 0 ≤ vAt l j ∧ vAt l j < k := h.rg _ (vAt_mem (by rw [h.len]; exact hj))
theorem low_list {k : Nat} {b : List Int} (hb : ∃ j : Int, (0 ≤ j ∧ j < k) ∧ 0 < vAt b j) (least : List Int) : (((List.range k).filter fun j : Nat => decide (0 < vAt b (j : Nat))).map fun j : Nat => vAt least (j : Nat)) ≠ [] := by
  obtain ⟨j, hj, hp⟩ := hb
  intro e
  have : j.toNat ∈ (List.range k).filter fun j : Nat => decide (0 < vAt b (j : Nat)) := List.mem_filter.mpr ⟨List.mem_range.mpr (by omega), by rw [Int.toNat_of_nonneg hj.1]; simpa using hp⟩
  rw [List.map_eq_nil_iff] at e
  rw [e] at this; cases this
theorem low_rg {k : Nat} {b least : List Int} (h : LtI k least) (hb : ∃ j : Int, (0 ≤ j ∧ j < k) ∧ 0 < vAt b j) : 0 ≤ lowM least k b ∧ lowM least k b < k := by
  unfold lowM
  obtain ⟨h1, _⟩ := minI_spec (low_list hb least)
  obtain ⟨j, hj, e⟩ := List.mem_map.mp h1
  rw [← e]
  have := List.mem_range.mp (List.mem_filter.mp hj).1
  exact vAt_lt h ⟨by omega, by omega⟩
theorem lowSet_ok {k : Nat} {low : Int} {b least : List Int} {j : Nat} (h : LtI k least) (hl : 0 ≤ low ∧ low < k) (hj : j < k) : LtI k (lowSet low b least j) := by
  unfold lowSet
  refine ⟨by rw [List.length_set]; exact h.len, fun x hx => ?_⟩
  rcases List.mem_or_eq_of_mem_set hx with z | z
  · exact h.rg x z
  · rw [z]; split
    · exact hl
    · exact vAt_lt h ⟨by omega, by omega⟩
theorem lowSet_fold {k : Nat} {low : Int} {b : List Int} (hl : 0 ≤ low ∧ low < k) : ∀ (pre : List Nat) (least : List Int), (∀ j ∈ pre, j < k) → LtI k least → LtI k (pre.foldl (lowSet low b) least)
  | [], _, _, h => h
  | j :: pre, least, hj, h => lowSet_fold hl pre _ (fun i hi => hj i (List.mem_cons_of_mem _ hi)) (lowSet_ok h hl (hj j List.mem_cons_self))
theorem lotB_ok {k : Nat} {b least : List Int} (h : LtI k least) (hb : ∃ j : Int, (0 ≤ j ∧ j < k) ∧ 0 < vAt b j) : LtI k (lotB k least b) := by
  unfold lotB
  exact lowSet_fold (low_rg h hb) _ _ (fun j hj => List.mem_range.mp hj) h
theorem lotB_fold {k : Nat} : ∀ (pre : List (List Int)) (least : List Int), (∀ b ∈ pre, ∃ j : Int, (0 ≤ j ∧ j < k) ∧ 0 < vAt b j) → LtI k least → LtI k (pre.foldl (lotB k) least)
  | [], _, _, h => h
  | b :: pre, least, hb, h => lotB_fold pre _ (fun c hc => hb c (List.mem_cons_of_mem _ hc)) (lotB_ok h (hb b List.mem_cons_self))
theorem jump_ok {k : Nat} {l : List Int} (h : LtI k l) : LtI k (l.map fun j => vAt l j) :=
  ⟨by rw [List.length_map]; exact h.len, fun x hx => by obtain ⟨j, hj, rfl⟩ := List.mem_map.mp hx; exact vAt_lt h (h.rg j hj)⟩
theorem lotTurn_def {k : Nat} {B : List (List Int)} {least : List Int} {t : Nat} : lotTurn k B least t = (B.foldl (lotB k) least).map fun j => vAt (B.foldl (lotB k) least) j := by unfold lotTurn; rfl
theorem lotTurn_fold {k : Nat} {B : List (List Int)} (hb : ∀ b ∈ B, ∃ j : Int, (0 ≤ j ∧ j < k) ∧ 0 < vAt b j) : ∀ (pre : List Nat) (least : List Int), LtI k least → LtI k (pre.foldl (lotTurn k B) least)
  | [], _, h => h
  | t :: pre, least, h => by
    rw [List.foldl_cons, lotTurn_def]
    exact lotTurn_fold hb pre _ (jump_ok (lotB_fold B least hb h))
theorem lt0 (k : Nat) : LtI k ((List.range k).map fun j : Nat => ((j : Nat) : Int)) :=
  ⟨by simp, fun x hx => by obtain ⟨j, hj, rfl⟩ := List.mem_map.mp hx; have := List.mem_range.mp hj; omega⟩
theorem VB.some {k : Nat} {B : List (List Int)} (vb : VB k B) : ∀ b ∈ B, ∃ j : Int, (0 ≤ j ∧ j < k) ∧ 0 < vAt b j := fun b hb => pos_at (vb.len b hb) (vb.nn b hb) (vb.ps b hb)
theorem labels_ok {k : Nat} {B : List (List Int)} (vb : VB k B) : LtI k (labels k B) := by
  unfold labels; exact lotTurn_fold vb.some _ _ (lt0 k)
local macro_rules | `(tactic| walk_at "sz") => `(tactic| first | omega | (simp only [List.length_zip, List.length_map, List.length_range, List.length_zipIdx]; omega) | exact ⟨by omega, by omega⟩)
local macro_rules | `(tactic| walk_at "leg") => `(tactic| repeat (first | exact LeG.nil | apply LeG.keep | apply LeG.drop))
local macro_rules | `(tactic| walk_at "sd") => `(tactic| first | trivial | assumption | omega)
section
variable {P : Program} {w : World} {K : PySem.W.Frag} {mg : Str → Option Value} {base : Heap} {C : Addr}
abbrev sLl := spF (spD kB (fun p => VB p.1 p.2) fun p => lvec (lotsM p.1 p.2))
-- def _law_lots _law_kinds:i _law_batches:lv _law_least:c0i
theorem scLawLots : FnScope ["_law_kinds", "_law_batches", "_law_least", "_law_turn", "_law_batch", "_law_low", "_law_kind", "_law_at"] ["_law_kinds", "_law_batches"] (defScope sLawLots) := ⟨rfl, rfl, rfl, by decide +kernel, rfl, by decide +kernel, by decide +kernel⟩
theorem ok_lawLots (B : Bl mg) (F : FnAt K mg "_law_lots" sLawLots) : Cl P w K mg base "_law_lots" 1 ["_law_kinds", "_law_batches"] sLl := by
  refine cl_D F scLawLots (fun p => ⟨isD_mono _, isD_mono _, trivial⟩) (fun _ => rfl) (by decide) (fun _ _ _ _ _ _ us hl => match us, hl with | [_, _], _ => rfl) (fun f cdv A outer s H σ S R E p hr g hs hR => ?_)
  have vb : VB p.1 p.2 := hs
  have h5 := vb.le
  have h8 := vb.few
  have k4 := vb.le4
  have hsm := vb.some
  refine sx_set scLawLots.nd (i := 2) (se_listRg g rfl B.list B.range (g_v g (pv 0) rfl) ⟨by omega, by omega⟩ fun l0 H1 hl0 g1 => ?_)
  have g2 := g1.set (i := 2) (blt rfl) (isR_mono l0) rfl
  rw [Int.toNat_natCast] at g2
  refine gs_forX (fun pre L Γ' M' => ∃ l, l ∉ S ∧ Γ' = [some (isD (.int p.1)), some (isD (lvec p.2)), some (isR l), none, none, none, none, none] ∧ M' = [(l, lisC ((pre.foldl (lotTurn p.1 p.2) ((List.range p.1).map fun j : Nat => ((j : Nat) : Int))).map .int))]) g2 PassesOwn.never rfl (w_range B.range (g_v g2 (pv 0) rfl) (by walk_at "sz") (by walk_at "sz")) (pg_name (i := 3) scLawLots.nd rfl (by first | exact Or.inl rfl | exact Or.inr rfl)) ⟨l0, hl0, rfl, rfl⟩ (fun B' pre t post ht L Γ' M' hL ⟨l, hl, eΓ, eM⟩ σ3 H3 v g3 hv => ?_) (fun L Γ' M' hL ⟨l, hl, eΓ, eM⟩ σ3 H3 g3 => ?_)
  · subst eΓ eM
    have hst := lotTurn_fold hsm pre _ (lt0 p.1)
    simp only [List.foldl_append, List.foldl_cons, List.foldl_nil]
    generalize pre.foldl (lotTurn p.1 p.2) ((List.range p.1).map fun j : Nat => ((j : Nat) : Int)) = ls at g3 hst
    rw [lotTurn_def]
    obtain rfl := Dt.intI hv
    refine gst_name (R := isD (.int (t : Nat))) g3 rfl (isD_mono _) (.int _) fun σ4 g4 => ?_
    refine gs_for g4 PassesOwn.never rfl (w_list (g_v g4 (pv 1) rfl)) (pg_name (i := 4) scLawLots.nd rfl (by first | exact Or.inl rfl | exact Or.inr rfl)) (fun _ => [some (isD (.int p.1)), some (isD (lvec p.2)), some (isR l), none, none, none, none, none]) (fun pre2 => [(l, lisC ((pre2.foldl (lotB p.1) ls).map .int))]) (fun H' g' => g'.le (by walk_at "leg")) (fun B2 pre2 b post2 hb σ5 H5 v5 g5 hv5 => ?_) (fun σ5 H5 g5 => ?_)
    · have hbB : b ∈ p.2 := by rw [hb]; simp
      have hbl := vb.len _ hbB
      have hst2 := lotB_fold pre2 ls (fun c hc => hsm c (by rw [hb]; simp [hc])) hst
      simp only [List.foldl_append, List.foldl_cons, List.foldl_nil]
      generalize pre2.foldl (lotB p.1) ls = ls2 at g5 hst2
      have hlow := low_rg hst2 (hsm b hbB)
      have hll := hst2.len
      refine gst_name g5 rfl (isD_mono _) hv5 fun σ6 g6 => ?_


      refine gs_set g6 (i := 5) scLawLots.nd (r_eq (d' := .int (lowM ls2 p.1 b)) (r_min rfl B.min (r_lc (own := [("_law_kind", 6)]) .int rfl scLawLots.nd (w_range B.range (g_v g6 (pv 0) rfl) (by first | omega | exact ⟨by omega, by omega⟩ | (simp only [List.length_range]; omega) | exact low_list (hsm b hbB) ls2) (by first | omega | exact ⟨by omega, by omega⟩ | (simp only [List.length_range]; omega) | exact low_list (hsm b hbB) ls2)) (blkOk_by (N := ["_law_kinds", "_law_batches", "_law_least", "_law_turn", "_law_batch", "_law_low", "_law_kind", "_law_at"]) (sc := defScope sLawLots) (by decide +kernel)) (fun _ _ _ _ _ => pg_name (i := 6) scLawLots.nd rfl (by first | exact Or.inl rfl | exact Or.inr rfl)) (by first | omega | exact ⟨by omega, by omega⟩ | (simp only [List.length_range]; omega) | exact low_list (hsm b hbB) ls2) (it_name g6 (j := 6) (by decide) rfl (fun _ => isD_mono _) (fun a1 ha1 _ _ _ g1 => ⟨b_one fun _ _ _ _ _ => (t_gt (r_ixT (g_v g1 (pv 4) rfl) (g_v g1 (pv 6) rfl) (by first | exact atI_v (by have := List.mem_range.mp ‹_›; omega))) r_int), fun hp1 _ _ _ _ _ => (g_ixC g1 (j := 0) rfl (g_v g1 (pv 2) rfl) (g_v g1 (pv 6) rfl) (by first | exact atI_v (by have := List.mem_range.mp ‹_›; omega)))⟩))) (by first | omega | exact ⟨by omega, by omega⟩ | (simp only [List.length_range]; omega) | exact low_list (hsm b hbB) ls2)) (by unfold lowM; rfl)) (isD_mono _) fun σ7 H7 g7 => ?_

      have e : lotB p.1 ls2 b = (List.range p.1).foldl (lowSet (lowM ls2 p.1 b) b) ls2 := by unfold lotB; rfl
      rw [e]
      generalize lowM ls2 p.1 b = low at *
      refine gs_for g7 PassesOwn.never rfl (w_range B.range (g_v g7 (pv 0) rfl) (by first | omega | exact ⟨by omega, by omega⟩ | (simp only [List.length_range]; omega) | exact low_list (hsm b hbB) ls2) (by first | omega | exact ⟨by omega, by omega⟩ | (simp only [List.length_range]; omega) | exact low_list (hsm b hbB) ls2)) (pg_name (i := 6) scLawLots.nd rfl (by first | exact Or.inl rfl | exact Or.inr rfl)) (fun _ => [some (isD (.int p.1)), some (isD (lvec p.2)), some (isR l), none, some (isD (vec b)), some (isD (.int low)), none, none]) (fun pre3 => [(l, lisC ((pre3.foldl (lowSet low b) ls2).map .int))]) (fun H' g' => g'.le (by walk_at "leg")) (fun B3 pre3 j post3 hj σ8 H8 v8 g8 hv8 => ?_) (fun σ8 H8 g8 => sw_nil (g8.le (by walk_at "leg")))
      have hjk : j < p.1 := List.mem_range.mp (by rw [show List.range p.1 = pre3 ++ j :: post3 from hj]; simp)
      have hst3 := lowSet_fold (b := b) hlow pre3 ls2 (fun i hi => List.mem_range.mp (by rw [show List.range p.1 = pre3 ++ j :: post3 from hj]; simp [hi])) hst2
      simp only [List.foldl_append, List.foldl_cons, List.foldl_nil]
      generalize pre3.foldl (lowSet low b) ls2 = ls3 at g8 hst3
      have hl3 := hst3.len
      refine gst_name g8 rfl (isD_mono _) hv8 fun σ9 g9 => ?_


      refine gs_lput (j := 0) (d := .int (if 0 < vAt b (j : Nat) then low else vAt ls3 (j : Nat))) (k := (j : Nat)) (n := j) g9 (r_if (t_gt (r_ixT (g_v g9 (pv 4) rfl) (g_v g9 (pv 6) rfl) (by exact atI_v (by omega))) r_int) (fun h => ?_) (fun h => ?_)) (fun H gg => (g_v gg (pv 2) rfl)) (fun H gg => (g_v gg (pv 6) rfl)) rfl (by rw [List.length_map]; exact (ixN_of ⟨by omega, by omega⟩).trans (by rw [Int.toNat_natCast])) fun H10 g10 => sw_nil ?_
      · rw [if_pos (of_decide_eq_true h)]; exact (g_v g9 (pv 5) rfl)
      · rw [if_neg (of_decide_eq_false h)]; exact (g_ixC g9 (j := 0) rfl (g_v g9 (pv 2) rfl) (g_v g9 (pv 6) rfl) (by exact atI_v (by omega)))

      have e2 : lowSet low b ls3 j = ls3.set j (if 0 < vAt b (j : Nat) then low else vAt ls3 (j : Nat)) := by unfold lowSet; rfl
      rw [e2, List.map_set]
      exact g10.le (by walk_at "leg")
    · have hst2 := lotB_fold p.2 ls hsm hst
      generalize p.2.foldl (lotB p.1) ls = ls2 at g5 hst2
      have hll := hst2.len
      refine sx_set scLawLots.nd (i := 2) (se_lcC (own := [("_law_low", 5)]) (xs := ls2) (f := fun j => .int (vAt ls2 j)) g5 rfl scLawLots.nd (w_listC g5 (j := 0) rfl (g_v g5 (pv 2) rfl)) (blkOk_by (N := ["_law_kinds", "_law_batches", "_law_least", "_law_turn", "_law_batch", "_law_low", "_law_kind", "_law_at"]) (sc := defScope sLawLots) (by decide +kernel)) (fun _ _ _ _ _ => (pg_name (i := 5) scLawLots.nd rfl (by first | exact Or.inl rfl | exact Or.inr rfl))) (by omega) ?_ fun l' H6 hl' g6 => sw_nil ⟨l' :: L, _, _, fun a ha => List.mem_cons_of_mem _ (hL a ha), ⟨l', fun z => hl' (hL l' (List.mem_cons_of_mem _ z)), rfl, rfl⟩, ?_⟩)
      · exact it_name (p := fun _ => true) g5 (j := 5) (by decide) rfl (fun _ => isD_mono _) fun a ha S' σ' H' gg => ⟨b_nil, fun _ _ _ _ _ _ => g_ixC gg (j := 0) rfl (g_v gg (pv 2) rfl) (g_v gg (pv 5) rfl) (atI_v (by have := hst2.rg a ha; omega))⟩
      · rw [List.map_map]
        have g7 := (g6.drop 1).set (i := 2) (v := .ref l') (blt rfl) (isR_mono l') rfl
        exact g7.le (by walk_at "leg")
  · subst eΓ eM
    have e : (List.range p.1).foldl (lotTurn p.1 p.2) ((List.range p.1).map fun j : Nat => ((j : Nat) : Int)) = labels p.1 p.2 := by unfold labels; rfl
    have hlb := labels_ok vb
    have e' : (List.range (Int.toNat (p.1 : Int))).foldl (lotTurn p.1 p.2) ((List.range p.1).map fun j : Nat => ((j : Nat) : Int)) = labels p.1 p.2 := by rw [Int.toNat_natCast]; exact e
    rw [e'] at g3
    have hll := hlb.len
    have g4 := g3.freeze (S := S) (i := 2) (j := 0) (fun b hb => hL b (List.mem_cons_of_mem _ hb)) hl rfl rfl (fun q hq => nomatch hq)



    refine gs_ret g4 (r_eq (r_lcA (own := [("_law_low", 5)]) vec rfl scLawLots.nd (w_list (r_sortI B.sorted (r_lc (own := [("_law_at", 7), ("_law_low", 5)]) .int rfl scLawLots.nd (w_enumL B.enumerate (g_v g4 (pv 2) rfl)) (blkOk_by (N := ["_law_kinds", "_law_batches", "_law_least", "_law_turn", "_law_batch", "_law_low", "_law_kind", "_law_at"]) (sc := defScope sLawLots) (by decide +kernel)) (fun _ _ _ _ _ => pg_tup rfl (pgs_cons (pg_name (i := 7) scLawLots.nd rfl (by first | exact Or.inl rfl | exact Or.inr rfl)) (pgs_cons (pg_name (i := 5) scLawLots.nd rfl (by first | exact Or.inl rfl | exact Or.inr rfl)) pgs_nil))) (by first | omega | exact ⟨by omega, by omega⟩ | (simp only [List.length_range]; omega) | (simp only [List.length_zipIdx]; omega) | (rw [List.length_map]; exact Nat.lt_of_le_of_lt (List.length_filter_le _ _) (by rw [List.length_zipIdx]; omega)) | (rw [(isort_perm _).length_eq, List.length_map]; exact Nat.le_trans (List.length_filter_le _ _) (by rw [List.length_zipIdx]; omega))) (it_pair g4 (i := 7) (j := 5) (by decide) (by decide) rfl rfl (fun _ => isD_mono _) (fun _ => isD_mono _) (fun a2 ha2 _ _ _ g2 => ⟨b_one fun _ _ _ _ _ => (t_eqI (g_v g2 (pv 5) rfl) (g_v g2 (pv 7) rfl)), fun hp2 _ _ _ _ _ => (g_v g2 (pv 5) rfl)⟩))) (by first | omega | exact ⟨by omega, by omega⟩ | (simp only [List.length_range]; omega) | (simp only [List.length_zipIdx]; omega) | (rw [List.length_map]; exact Nat.lt_of_le_of_lt (List.length_filter_le _ _) (by rw [List.length_zipIdx]; omega)) | (rw [(isort_perm _).length_eq, List.length_map]; exact Nat.le_trans (List.length_filter_le _ _) (by rw [List.length_zipIdx]; omega))))) (blkOk_by (N := ["_law_kinds", "_law_batches", "_law_least", "_law_turn", "_law_batch", "_law_low", "_law_kind", "_law_at"]) (sc := defScope sLawLots) (by decide +kernel)) (fun _ _ _ _ _ => pg_name (i := 5) scLawLots.nd rfl (by first | exact Or.inl rfl | exact Or.inr rfl)) (by first | omega | exact ⟨by omega, by omega⟩ | (simp only [List.length_range]; omega) | (simp only [List.length_zipIdx]; omega) | (rw [List.length_map]; exact Nat.lt_of_le_of_lt (List.length_filter_le _ _) (by rw [List.length_zipIdx]; omega)) | (rw [(isort_perm _).length_eq, List.length_map]; exact Nat.le_trans (List.length_filter_le _ _) (by rw [List.length_zipIdx]; omega))) (it_name g4 (j := 5) (by decide) rfl (fun _ => isD_mono _) (fun a3 ha3 _ _ _ g3 => ⟨b_nil, fun hp3 _ _ _ _ _ => (r_tupleL B.tuple (r_lc (own := [("_law_kind", 6)]) .int rfl scLawLots.nd (w_range B.range (g_v g3 (pv 0) rfl) (by first | omega | exact ⟨by omega, by omega⟩ | (simp only [List.length_range]; omega) | (simp only [List.length_zipIdx]; omega) | (rw [List.length_map]; exact Nat.lt_of_le_of_lt (List.length_filter_le _ _) (by rw [List.length_zipIdx]; omega)) | (rw [(isort_perm _).length_eq, List.length_map]; exact Nat.le_trans (List.length_filter_le _ _) (by rw [List.length_zipIdx]; omega))) (by first | omega | exact ⟨by omega, by omega⟩ | (simp only [List.length_range]; omega) | (simp only [List.length_zipIdx]; omega) | (rw [List.length_map]; exact Nat.lt_of_le_of_lt (List.length_filter_le _ _) (by rw [List.length_zipIdx]; omega)) | (rw [(isort_perm _).length_eq, List.length_map]; exact Nat.le_trans (List.length_filter_le _ _) (by rw [List.length_zipIdx]; omega)))) (blkOk_by (by kernel_rfl)) (fun _ _ _ _ _ => pg_name (i := 6) scLawLots.nd rfl (by first | exact Or.inl rfl | exact Or.inr rfl)) (by first | omega | exact ⟨by omega, by omega⟩ | (simp only [List.length_range]; omega) | (simp only [List.length_zipIdx]; omega) | (rw [List.length_map]; exact Nat.lt_of_le_of_lt (List.length_filter_le _ _) (by rw [List.length_zipIdx]; omega)) | (rw [(isort_perm _).length_eq, List.length_map]; exact Nat.le_trans (List.length_filter_le _ _) (by rw [List.length_zipIdx]; omega))) (it_name g3 (j := 6) (by decide) rfl (fun _ => isD_mono _) (fun a4 ha4 _ _ _ g4 => ⟨b_one fun _ _ _ _ _ => (t_eqI (r_ixL (g_v g4 (pv 2) rfl) (g_v g4 (pv 6) rfl) (by exact atI_v (by have := List.mem_range.mp ‹_›; omega))) (g_v g4 (pv 5) rfl)), fun hp4 _ _ _ _ _ => (g_v g4 (pv 6) rfl)⟩))))⟩))) (by unfold lotsM; rfl)) fun v H' g' r => fin_D g' (fun _ h => h) r hR


end
end N34

set_option Elab.async false
set_option linter.all false
set_option maxRecDepth 100000
set_option maxHeartbeats 2000000
/-! Refused(at): its __init__ says super().__init__(text), then self.at = at -/
namespace N34
open PySem PySem.Spec PyProof.Rows L2
/-- what the written part says of the class at C -/
structure RfF (P : Program) (K : PySem.W.Frag) (C fI : Addr) : Prop where
  ox : OexC K C
  ini : PySem.W.findIn K (.ref C) "__init__" = some (some (.ref fI))
  tI : PySem.W.typeIn K (.ref fI) = some (.type "function")
  fn : ∃ (oc : Value) (od : Option Addr) (kV doc pm : Value) (an : Option Addr) (cda cc : Addr) (ct : Value) (osl : Array (Option Value)), K.lookup fI = some ⟨oc, od, .func (PySem.W.ksFn "__init__" "Refused.__init__" (defArgs sRefusedInit) (defBody sRefusedInit) (defScope sRefusedInit) .none kV doc pm an (.ref cda) ct cc), osl⟩ ∧
    PySem.W.codeIn K (.ref cda) "Refused.__init__" = true ∧ (∃ cl cld csl, K.lookup cc = some ⟨cl, cld, .cell (some (.ref C)), csl⟩) ∧ ∃ ccl cdd vs ccs file tf, K.lookup cda = some ⟨ccl, cdd, .fields vs, ccs⟩ ∧ vs[2]? = some (.str file tf) ∧ ((P.main.file : Str) == file) = true
  cls : ∃ cd, PySem.W.clsIn K C = some cd ∧ PySem.W.alongIn K "__init__" ((cd.mro.dropWhile (· != .ref C)).drop 1) = some (some (.builtin "ValueError.__init__"))
  sub : PySem.W.subIn K (.ref C) (.type "ValueError") = some true
  self : PySem.W.mroIn K C (.ref C) = some true
  tp : PySem.W.nsIn K cStatics "thirdparty.any" = some none
  noat : PySem.W.findIn K (.ref C) "at" = some none
  top : (P.main.scope.names.lookup ("super" : Str)).isSome = false
def spRf (C : Addr) : Sp := fun vs H Q _ => ∃ (a : Addr) (i : Int), vs = [.ref a, .int i] ∧ H a = some (exo a C none) ∧ ∀ dx, H dx = none → dx ≠ a → Q .non (upd (upd H dx (exd dx [("at", .int i)])) a (exo a C (some dx)))
abbrev envS (L fI cda cc : Addr) : Env := PySem.W.ksEnv "Refused.__init__" (defScope sRefusedInit) L fI (.ref cda) cc
/-- the context of its body -/
abbrev cxS (P : Program) (w : World) (K : PySem.W.Frag) (mg : Str → Option Value) (base : Heap) (fI cda cc : Addr) (A : Around) (outer : List Env) (s : Shared) (H : Hp) (E : XK) : Cx :=
  { cxOf CX0 P w K mg base ["self", "at", "__class__"] "Refused.__init__" (defScope sRefusedInit) fI (.ref cda) A outer s H E with
    A := A.deeper (envS s.heap.objs.size fI cda cc), env := envS s.heap.objs.size fI cda cc, stack := envS s.heap.objs.size fI cda cc :: outer, fn := fun _ => false
    xe := fun e s' => wpAny (model P w) (A.deeper (envS s.heap.objs.size fI cda cc)) (leaving (envS s.heap.objs.size fI cda cc) e) (fun _ s'' => CX0 outer H s E e s'') (fun e' s'' => CX0 outer H s E e' s'') s' }
section
variable {P : Program} {w : World} {K : PySem.W.Frag} {mg : Str → Option Value} {base : Heap} {C fI : Addr}
theorem inv_S {fI cda cc a : Addr} {i : Int} {tk : Tok} {A : Around} {outer : List Env} {s : Shared} {H : Hp} {E : XK} {h₀ : Heap} {t' : Nat} {cl : Value} {cld : Option Addr} {csl : Array (Option Value)} (hd : A.handled = none) (e0 : Env0 P w K mg base A outer s H) (hcc : K.lookup cc = some ⟨cl, cld, .cell (some (.ref C)), csl⟩)
    (hns : h₀.Ns s.heap.objs.size (fun x => ([("self", Value.ref a), ("at", Value.int i tk)] : List (Str × Value)).reverse.lookup x)) (hk : ∀ b o, s.heap.get? b = some o → h₀.get? b = some o) : Inv (cxS P w K mg base fI cda cc A outer s H E) [] [some (.ref a), some (.int i), some (.ref C)] H { s with heap := h₀, toks := t' } := by
  have hb := e0.mod.kin _ _ hcc
  obtain ⟨hs, hH⟩ := e0.bs _ _ hb
  have one : ∀ (y : Str) (c : Addr), ([("__class__", cc)] : List (Str × Addr)).lookup y = some c → y = "__class__" ∧ c = cc := fun y c h => by
    rw [List.lookup_cons] at h
    split at h
    · rename_i q
      exact ⟨by simpa using q, (Option.some.inj h).symm⟩
    · cases h
  have noA : ∀ b : Addr, b ∉ ([] : List Addr) := fun b z => nomatch z
  have cellc : h₀.IsCell cc (some (.ref C)) := ⟨_, hk _ _ hs, rfl⟩
  refine ⟨⟨e0.mod, rfl, rfl, rfl, Nat.le_refl _, fun y z c h1 h2 => ?_, fun y hy => ?_, fun y c h _ => Bool.noConfusion h, fun _ => hd, Around.frames_deeper e0.frames, .inr ⟨rfl, rfl⟩, fun b z => absurd z (noA b), e0.bs, e0.bsz, fun b _ _ => noA b, fun b z => absurd z (noA b), e0.funs, e0.frf⟩,
    rfl, e0.bare, Un.kept hk, ⟨_, hns, fun j y v h1 h2 h3 => ?_⟩, fun y c h => ?_, e0.hok.fresh (Nat.le_refl _), fun y c h => ?_, fun p hp => (nomatch hp), e0.hok.kept hk, rfl⟩
  · exact (one y c h1).1.trans (one z c h2).1.symm
  · have hy' : (defScope sRefusedInit).names.lookup y = some .cell ∨ (defScope sRefusedInit).names.lookup y = some .free := hy
    have key : ∀ p ∈ (defScope sRefusedInit).names, p.2 = .cell ∨ p.2 = .free → p.1 = "__class__" := by decide +kernel
    have : y = "__class__" := by
      rcases hy' with z | z
      · exact key _ (PySem.mem_of_lookup z) (.inl rfl)
      · exact key _ (PySem.mem_of_lookup z) (.inr rfl)
    subst this
    exact ⟨cc, rfl⟩
  · match j, h1, h2 with
    | 0, h1, h2 =>
      obtain rfl : "self" = y := Option.some.inj h1
      obtain rfl : V.ref a = v := Option.some.inj (Option.some.inj h2)
      exact ⟨.ref a, rfl, .inl ⟨rfl, rfl⟩⟩
    | 1, h1, h2 =>
      obtain rfl : "at" = y := Option.some.inj h1
      obtain rfl : V.int i = v := Option.some.inj (Option.some.inj h2)
      exact ⟨.int i tk, ⟨tk, rfl⟩, .inl ⟨rfl, rfl⟩⟩
    | 2, h1, h2 =>
      obtain rfl : "__class__" = y := Option.some.inj h1
      obtain rfl : V.ref C = v := Option.some.inj (Option.some.inj h2)
      exact ⟨.ref C, rfl, .inr ⟨.inr rfl, cc, rfl, cellc⟩⟩
    | j + 3, h1, h2 => cases h1
  · rw [(one y c h).2]; exact ⟨_, cellc⟩
  · rw [(one y c h).2]; exact hH
theorem ok_refInit (R : RfF P K C fI) (hsup : mg "super" = none) : ∃ fd, FnOk P w K mg base CX0 1 fI fd ["self", "at"] (spRf C) ∧ Binds K fd ["self", "at"] [] := by
  obtain ⟨oc, od, kV, doc, pm, an, cda, cc, ct, osl, lk, hcd, ⟨cl, cld, csl, hcc⟩, ccl, cdd, vs0, ccs, file, tf, hcode, hvs, hfile⟩ := R.fn
  refine ⟨PySem.W.ksFn "__init__" "Refused.__init__" (defArgs sRefusedInit) (defBody sRefusedInit) (defScope sRefusedInit) .none kV doc pm an (.ref cda) ct cc, ⟨fun vs H Q E ⟨a, i, e, _⟩ => by rw [e]; rfl, fun A outer s H args us vs Q E hr e0 hb r hsp => ?_⟩, .all fun us hl => match us, hl with | [_, _], _ => rfl⟩
  obtain ⟨a, i, rfl, ea, q⟩ := hsp
  cases r with
  | cons ra r => cases r with
    | cons rb r => cases r with
      | nil =>
        cases ra
        obtain ⟨tk, rfl⟩ := rb
        have KX : K.In s.heap := e0.mod.kin.keeps fun b o e => (e0.bs b o e).1
        have lim : s.heap.NoLimit := e0.mod.nolimit.keeps fun b o e => (e0.bs b o e).1
        refine ks_codeAny_call_defAt hr.depth (KX _ _ lk) rfl lim (PySem.W.codeRec_of KX hcd) rfl hb (show ∀ x ∈ (defScope sRefusedInit).names, x.2 ≠ .cell by decide +kernel) (fun x hx => ?_) (fun h₀ hns hkeep => ?_)
        · rcases List.mem_cons.mp hx with e | hx
          · rw [e]; rfl
          · rw [List.mem_singleton.mp hx]; rfl
        have I := inv_S (cda := cda) (fI := fI) (E := E) (t' := s.toks + 2) hr.hd e0 hcc hns hkeep
        obtain ⟨cd, hcd1, hcd2⟩ := R.cls
        obtain ⟨t1, hx⟩ := exo_at I.hok ea
        have hno : ∀ c, (Data.fields #[.ref t1, .none, .none, .none, .bool false, .none] : Data) ≠ .cls c := fun c z => by cases z
        obtain ⟨oD, hD1, hD2⟩ : ∃ oD, h₀.get? C = some oD ∧ oD.data = .cls cd := by
          unfold PySem.W.clsIn at hcd1
          split at hcd1
          · rename_i c d cd' sl ho
            cases hcd1
            exact ⟨_, I.kIn _ _ ho, rfl⟩
          · cases hcd1
        have cellc : h₀.IsCell cc (some (.ref C)) := ⟨_, I.kIn _ _ hcc, rfl⟩
        obtain ⟨mb, hb1, hb2⟩ := I.mod.blt
        refine ks_wpAt_execs_cons (ks_wpAt_Expr_any (ks_wpAt_MethodCall (ks_wpAt_super_base (f := fI) (cc := cda) (env := envS s.heap.objs.size fI cda cc) rfl rfl (by decide) rfl (I.kIn _ _ lk) rfl rfl rfl (I.kIn _ _ hcode) rfl hvs hfile R.top ?_)))
        refine PySem.W.ks_loadName_global rfl rfl (Calls.loadGlobal_builtin (I.mod.glob.keeps I.bk) hsup (hb1.keeps I.bk) ((hb2 "super" (by decide)).trans (by decide +kernel)) ⟨rfl, ?_⟩)
        refine wpAny_loadName_free rfl rfl rfl cellc ?_ (by decide)
        refine wpAny_loadName_local rfl rfl hns rfl ?_
        refine ks_wpAny_isType_cls hD1 hD2 ⟨rfl, ?_⟩
        refine ks_wpAny_call_super hD1 hD2 hx rfl hno (PySem.W.looks_mroIn I.kIn R.self) (fun h' e k => ?_)
        have I1 : L2.Inv (cxS P w K mg base fI cda cc A outer s H E) [] [some (.ref a), some (.int i), some (.ref C)] H { heap := h', gens := s.gens, drawn := s.drawn, toks := s.toks + 2, os := s.os } := I.kept k
        have hx1 := k _ _ hx
        have J1 : PySem.W.InstAt h' a { cls := .ref C, dict := none, data := .fields #[.ref t1, .none, .none, .none, .bool false, .none] } C none := ⟨hx1, rfl, rfl, trivial⟩
        refine PySem.W.kxs_getMethod PySem.W.kxs_ValueError e (PySem.W.looks_opaque I1.kIn R.tp) (l₀ := cd.mro) (fun A Q E s k q => wpAny_bind ((PySem.W.looks_clsIn I1.kIn hcd1) A _ E s k (wpAny_pure q))) rfl I1.kIn hcd2 (J1.type.andThen (PySem.W.looks_subIn I1.kIn R.sub)) (PySem.W.ks_ne I1.kIn J1 hcd1) (by decide) ?_
        have I2 : L2.Inv (cxS P w K mg base fI cda cc A outer s H E) [] [some (.ref a), some (.int i), some (.ref C)] H { heap := h'.push (PySem.W.kxs_mw "ValueError.__init__" a), gens := s.gens, drawn := s.drawn, toks := s.toks + 2 + 1, os := s.os } := (I1.kept (t' := s.toks + 2 + 1) fun b o e => Heap.get?_push_of_some _ e)
        have hu : (h'.push (PySem.W.kxs_mw "ValueError.__init__" a)).get? h'.objs.size = some (PySem.W.kxs_mw "ValueError.__init__" a) := Heap.get?_push_at rfl rfl
        have hx2 : (h'.push (PySem.W.kxs_mw "ValueError.__init__" a)).get? a = some { cls := .ref C, dict := none, data := .fields #[.ref t1, .none, .none, .none, .bool false, .none] } := Heap.get?_push_of_some _ hx1
        refine PySem.W.kxs_callWith (i := "ValueError.__init__") (x := a) rfl ?_
        refine PySem.Calls.evalArgs_plain ?_
        refine args_cons (PySem.Calls.Constant_str (args_nil ?_)) rfl
        refine ⟨hu, ?_⟩
        obtain ⟨nm, qn, N, bs, bm, sn, sub, ab, col, dd, k0, k1, k2, k3, k5, hC, hbm⟩ := R.ox.cls
        refine wpAny_call (codeAny_of_tree ?_)
        show wpAny _ _ (callAny (.ref h'.objs.size) _) _ _ _
        simp only [callAny]
        refine wpAny_bind (wpAny_load hu ?_)
        simp only [PySem.W.kxs_mw, show (Value.type "method-wrapper" == Value.type "method" || Value.type "method-wrapper" == Value.type "builtin_function_or_method" || Value.type "method-wrapper" == Value.type "method-wrapper") = true by decide, if_true]
        refine PySem.W.KFB.if_so (by decide) ?_
        refine wpAny_bind (PySem.W.check_bound_init F.excBase_ValueError.toExcCallFacts (I2.kIn _ _ hC) hx2 rfl ?_)
        refine wpAny_bind (wpAny_pure (wpAny_pure ?_))
        refine ⟨plainId_quiet F.excBase_ValueError.init.plain _, codeAny_builtin F.excBase_ValueError.initEntry ?_⟩
        refine PySem.W.exc_init_tree (cls := .ref C) (t0 := t1) (dv := none) (c2 := .none) (c3 := .none) (b4 := .bool false) hx2 (by rw [sizeLine_eq]; simp) fun h3 hk3 hx3 _ => ?_
        have I3 := I2.write (t' := s.toks + 2 + 1 + 1) (x := a) (e := a) (o := exo a C none) (by rw [ea]; exact True.intro) (.inl rfl) hk3 ⟨_, hx3⟩ (exo_ok hx3)
        have eu : upd H a (exo a C none) = H := by
          funext b
          by_cases hb : b = a
          · rw [hb, upd_same, ea]
          · rw [upd_ne hb]
        rw [eu] at I3
        refine wpAt_of_wpAny (wpAny_mono ((pss_one (X := cxS P w K mg base fI cda cc A outer s H E) (ps_ost (f := "at") (pv 0) (pv 1))).run [] _ _ H { nx := fun _ H' => Q .non H', rt := Q } I3 ⟨.int i, rfl, .ref a, rfl, a, C, rfl, R.ox, R.noat, .inl ⟨ea, fun dx n ne => q dx n ne⟩⟩) (fun fl s' hs => ?_) fun e s' hs => hs)
        cases fl with
        | ret u =>
          obtain ⟨v, σ', H', J, rv, q⟩ := hs
          exact ⟨v, H', J.os, J.bare, J.base, J.hok, rv, q⟩
        | next =>
          obtain ⟨σ', H', J, q⟩ := hs
          exact ⟨.non, H', J.os, J.bare, J.base, J.hok, rfl, q⟩
        | brk =>
          obtain ⟨_, _, _, q⟩ := hs
          exact False.elim q
        | cont =>
          obtain ⟨_, _, _, q⟩ := hs
          exact False.elim q
end
end N34

set_option Elab.async false
set_option linter.all false
set_option maxRecDepth 100000
set_option maxHeartbeats 1000000
/-! part, _law_refused -/
namespace N34
open PySem PySem.Spec PyProof.Rows L2
/-! ### calls by keywords alone -/
theorem FunD.kwN {K : PySem.W.Frag} {x qual : Str} {params : Arguments} {body : List Stmt} {scope : Scope} {f : Addr} {fd : FuncData} {ps ks : List Str} {g : List Value → List Value} (F : FunD K x qual params body scope [] [] f fd)
    (h : ∀ (kV doc pm : Value) (an : Option Addr) (cdv ct : Value) (ws : List Value), ws.length = ks.length → bindArgs (PySem.W.fnOf x qual params body scope .none kV doc pm an cdv ct) ⟨[], ks.zip ws⟩ = pure (ps.zip (g ws))) (s : Shared) (ws : List Value) (hl : ws.length = ks.length) : BindsTo s fd ⟨[], ks.zip ws⟩ (ps.zip (g ws)) := by
  obtain ⟨oc, od, dV, kV, doc, pm, an, cdv, ct, osl, rfl, lk, hcd, hD, hK⟩ := F.ex
  rcases hD with ⟨_, rfl⟩ | ⟨e, _⟩
  · exact .of_eq (h kV doc pm an cdv ct ws hl)
  · exact absurd rfl e
section
variable {X : Cx} {CX : CXT} {k : Nat} {f : Addr} {fd : FuncData} {ps ks : List Str} {sp : Sp} {E : L2.St → XK} {x : Str} {p pos : Pos} {kws : List Keyword} {tk : TA} {g : List Value → List Value} {gV : List V → List V}
theorem pe_callK0 (F : FnOk X.prog X.w X.K X.mg X.base CX k f fd ps sp) (hr : Room k X.A) (hg : Gl X x) (hm : X.mg x = some (.ref f)) (hk : PySem.W.keepIn X.K (.ref f) = true) (hb : ∀ (s : Shared) (ws : List Value), ws.length = ks.length → BindsTo s fd ⟨[], ks.zip ws⟩ (ps.zip (g ws)))
    (hrel : ∀ {zs : List V} {ws : List Value}, Vals zs ws → Vals (gV zs) (g ws)) (hlen : ∀ zs H Q E, sp (gV zs) H Q E → zs.length = ks.length) (hx : ∀ σ, PassesAt CX X σ (E σ)) (hkw : PK X kws tk)
    (hall : (backToKw pos (keywordEach kws X.env)).all (·.1.isSome) = true := by rfl) (hks : (backToKw pos (keywordEach kws X.env)).filterMap (·.1) = ks := by rfl) (hdb : (x == ("__debug__" : Str)) = false := by decide)
    (hpl : ((backTo pos (starEach [] X.env)).any (·.1) || (backToKw pos (keywordEach kws X.env)).any (·.1.isNone)) = false := by rfl) : PE X (.Call (.Name x p) [] kws pos) (fun σ H Q => tk σ H fun zs H2 => sp (gV zs) H2 Q (E σ)) := by
  refine ⟨fun pins s σ H Q I h => ?_⟩
  refine wpAny_Call_Name_kw (ld_glob I hg hm ?_ hdb)
  refine PySem.W.callWith_KW0 (h₀ := X.base) I.ok.mod.kin hk hall (thn (hkw.run pos pins s σ H _ I h) fun ws s2 ⟨zs, H2, I2, rz, q2⟩ => ⟨I2.kIn, ?_⟩) hpl
  rw [hks]
  refine wpAny_call (codeAny_mono (F.run X.A X.stack s2 H2 ⟨[], ks.zip ws⟩ (g ws) (gV zs) Q (E σ) hr I2.env0 (hb s2 ws (rz.length.symm.trans (hlen _ _ _ _ q2))) (hrel rz) q2) fun r s' hq => ?_)
  cases r with
  | error e => exact hx σ pins H2 s2 e s' I2 hq
  | ok fl =>
    cases fl with
    | ret u => exact I2.after hq
    | next => exact False.elim hq
    | brk => exact False.elim hq
    | cont => exact False.elim hq
theorem pass0At {σ : L2.St} {E : XK} : PassesAt CX0 X σ E := fun _ _ _ _ _ _ h => h.elim
end
/-! ### in a tuple -/
theorem op_notInT {X : Cx} (hu : X.A.units + 65 < cLine) : OpR X (compareOp .NotIn) (fun x y H Q => ∃ d ds, Dp X.K H x d ∧ Dp X.K H y (.tuple ds) ∧ SeqAt.shaped d = true ∧ SeqAt.shaped (.tuple ds) = true ∧ Q (.bl (!ds.any fun z => PyData.eqv z d)) H) := by
  intro pins s σ H x y v u Q I rx ry ⟨d, ds, hd, he, sd, se, q⟩
  obtain ⟨as, r1⟩ := Dp.reads I d x v hd rx
  obtain ⟨bs, r2⟩ := Dp.reads I (.tuple ds) y u he ry
  exact SeqAt.notIn_tuple_reads r2 r1 (SeqAt.canLay_of_shaped se) (SeqAt.canLay_of_shaped sd) (room_in_shaped sd hu) ⟨.bl _, H, I, rfl, q⟩
theorem t_ninT2 {X : Cx} {S : List Addr} {σ0 : L2.St} {H0 : Hp} {a b : Expr} {pos : Pos} {B : List (List Int)} {c : List Int} (hu : X.A.units + 65 < cLine) (ha : PE X a (tR S σ0 H0 (isD (vec c)))) (hb : PE X b (tR S σ0 H0 (isD (tvec B)))) (hk : behindInMarks .NotIn b = false := by rfl) :
    PT X (.Compare a [.NotIn] [b] pos) (tRT S σ0 H0 (!decide (c ∈ B))) :=
  t_eq (PT_cmp_of (x := !((B.map vec).any fun z => PyData.eqv z (vec c))) (op_notInT hu) ha hb (isD_mono _) (fun x y H _ _ hx hy Q k => ⟨vec c, B.map vec, (hx.mono hid_le).dp, (hy.mono hid_le).dp, shp_vec c, shp_tvec B, k _ H (Ex.refl _) (.bl _)⟩) hk) (by rw [any_vec])
/-! ### Refused(0) raised -/
structure RfM (P : Program) (w : World) (K : PySem.W.Frag) (mg : Str → Option Value) (base : Heap) (Rf : Addr) : Prop where
  ok : ∃ fI fd, RfF P K Rf fI ∧ FnOk P w K mg base CX0 1 fI fd ["self", "at"] (spRf Rf) ∧ Binds K fd ["self", "at"] []
  glo : mg "Refused" = some (.ref Rf)
section
variable {X : Cx} {S : List Addr} {Bs : List Hp} {Γ : Ga} {M : Ce} {σ : L2.St} {H : Hp} {D : Ends} {rest : List Stmt} {W : WX} {Rf : Addr} {i : Int} {e : Expr} {p p1 pos : Pos}
theorem gs_raise (g : Sg S Bs Γ M σ H) (hc : X.calm = true) (tk : Takes X W) (T : RfM X.prog X.w X.K X.mg X.base Rf) (hr : Room 2 X.A) (he : PE X e (tR S σ H (isD (.int i)))) (k : ∀ d H', Ex H H' → H d = none → H' d = some (.xd [("at", .int i)]) → W (.ref Rf) (some d) σ H')
    (hg : Gl X "Refused" := by rfl) (hs : starEach [e] X.env = (false, eval e X.env) :: starEach [] X.env := by rfl) : SW X D (.Raise (some (.Call (.Name "Refused" p) [e] [] p1)) none pos :: rest) σ H := by
  obtain ⟨fI, fd, R, F, hb⟩ := T.ok
  refine sw_cons (ps_raise hc tk (pmk_oex R.ox R.ini R.tI F hr hb .nil pass0 hg T.glo (ra_1 he hs) (he := hs))) ⟨rfl, Ex.refl _, g.al, fun vs H1 e1 ra => ?_⟩
  obtain ⟨v, ws, rfl, hv, hw⟩ := ra
  obtain rfl : ws = [] := hw
  obtain rfl := hv.intI
  refine ⟨by simp, fun a ha => ?_⟩
  refine ⟨a, i, rfl, upd_same, fun dx hdx hne => ⟨rfl, dx, [("at", .int i)], upd_same, ?_, ?_, ?_⟩⟩
  · rw [upd_ne hne, upd_same]
  · rw [upd_ne hne] at hdx; exact hdx
  · rw [upd_ne hne] at hdx
    refine k dx _ (fun b o hb' => ?_) (e1.free hdx) upd_same
    have h1 := e1 _ _ hb'
    have n1 : b ≠ dx := ne_of_none h1 hdx
    have n2 : b ≠ a := ne_of_none h1 ha
    rw [upd_ne n1, del_ne n2, upd_ne n2, upd_ne n1, upd_ne n2]
    exact h1
end
local macro_rules | `(tactic| walk_at "sz") => `(tactic| first | assumption | omega | (simp only [List.length_zip, List.length_map, List.length_range, List.length_zipIdx]; omega) | exact ⟨by omega, by omega⟩)
local macro_rules | `(tactic| walk_at "leg") => `(tactic| repeat (first | exact LeG.nil | apply LeG.keep | apply LeG.drop))
local macro_rules | `(tactic| walk_at "sd") => `(tactic| first | trivial | assumption | omega)
/-- what is no lot -/
inductive NoLot (k : Nat) (B : List (List Int)) : PyData → Prop
  | non : NoLot k B .none
  | lst (l : List Int) : NoLot k B (lint l)
  | str (z : Str) : NoLot k B (.str z)
  | vec (l : List Int) : l.length ≤ 100 → l ∉ partsM k B → NoLot k B (vec l)
/-- a lot, what is no lot: what comes, what is raised -/
def spPt (C Rf : Addr) : Sp := fun vs H Q E => ∃ S k B dv, Al S H ∧ AllR [isBk C k B, isD dv] vs (hid S H) ∧ VB k B ∧
  ((∃ l, dv = vec l ∧ l ∈ partsM k B ∧ VB l.length (chosenM B l) ∧ ∀ a d H2, Ex H H2 → H a = none → H d = none → H2 d = some (.dK []) → isB C l.length (vsort (chosenM B l)) d (.ref a) (hid (d :: S) H2) → Q (.ref a) H2) ∨
    (NoLot k B dv ∧ ∀ dx H2, Ex H H2 → H dx = none → H2 dx = some (.xd [("at", .int 0)]) → E (.ref Rf) (some dx) H2))
theorem parts_ok {k : Nat} {B : List (List Int)} (vb : VB k B) {l : List Int} (h : l ∈ partsM k B) : (∀ i ∈ l, 0 ≤ i ∧ i < k) ∧ l.length ≤ k ∧ l ≠ [] := by
  unfold partsM at h
  rw [vsort_mem] at h
  obtain ⟨l0, hl0, rfl⟩ := List.mem_map.mp h
  have o := parts_fold_ok B (lots0_ok k) vb.some
  refine ⟨fun i hi => o.lt l0 hl0 i ((isort_perm l0).subset hi), by rw [(isort_perm l0).length_eq]; exact o.small hl0, fun e => o.ne l0 hl0 ?_⟩
  have := (isort_perm l0).length_eq
  rw [e] at this
  exact List.length_eq_zero_iff.mp this.symm
section
variable {P : Program} {w : World} {K : PySem.W.Frag} {mg : Str → Option Value} {base : Heap} {C Rf : Addr}


-- def part book:B kinds:v
theorem scPart : FnScope ["book", "kinds", "kind"] ["book", "kinds"] (defScope sPart) := ⟨rfl, rfl, rfl, by decide +kernel, rfl, by decide +kernel, by decide +kernel⟩
theorem ok_part (B : Bl mg) (T : BkF K C) (F : FnAt K mg "part" sPart) (RM : RfM P w K mg base Rf) (c_is_index : Cl P w K mg base "is_index" 3 ["value", "many"] sIx) (c_parts : Cl P w K mg base "parts" 1 ["book"] (sPs C)) (c_chosen : Cl P w K mg base "chosen" 6 ["book", "kinds"] (sCh C)) :
    ClF P w K mg base (L2.CX P w) "part" sPart 7 ["book", "kinds"] (spPt C Rf) := by
  obtain ⟨f, fd, Fd, hm⟩ := F.ex
  refine ⟨f, fd, Fd.ok scPart (fun vs H Q E ⟨_, _, _, _, _, h, _⟩ => h.length) (fun cdv A outer s H vs Q E hr h => ⟨_, pss_SW, ?_⟩), hm, Fd⟩
  obtain ⟨S, k, Bt, dv, al, ha, vb, ways⟩ := h
  have h5 := vb.le
  have g := Sg.start (Rs := [isBk C k Bt, isD dv]) (N := ["book", "kinds", "kind"]) al (⟨isBk_mono _ _ _, isD_mono _, trivial⟩ : MonoA [isBk C k Bt, isD dv]) ha (by rw [ha.length]; exact Nat.le_of_ble_eq_true rfl)
  have tk := takes_of (X := cxOf (L2.CX P w) P w K mg base ["book", "kinds", "kind"] "part" (defScope sPart) f cdv A outer s H E) rfl rfl rfl (E := E) rfl
  rcases ways with ⟨l, rfl, hl, vb2, q⟩ | ⟨hno, q⟩
  · obtain ⟨hrg, hlk, hne⟩ := parts_ok vb hl
    refine gs_if1 g (t_eq (b' := false) (QT.pt (q_or (t_not (t_val (r_isi B.isinstance (g_v g (pv 1) rfl) B.tuple (by decide +kernel) k_tup_tup))) (fun _ => (q_one_or (t_not (t_val (r_all rfl B.all (r_lcA (own := [("kind", 2)]) .bool rfl scPart.nd (w_tup (g_v g (pv 1) rfl)) (blkOk_by (N := ["book", "kinds", "kind"]) (sc := defScope sPart) (by decide +kernel)) (fun _ _ _ _ _ => pg_name (i := 2) scPart.nd rfl (by first | exact Or.inl rfl | exact Or.inr rfl)) (by walk_at "sz") (it_name g (j := 2) (by decide) rfl (fun _ => isD_mono _) (fun a1 ha1 _ _ _ g1 => ⟨b_nil, fun hp1 _ _ _ _ _ => (r_callD c_is_index (hr.mono (by omega)) (p := (_, _)) rfl (ra_D (g_v g1 (pv 2) rfl) (ra_D (g_kinds T (g_v g1 (pv 0) rfl)) ra_nil)) (by walk_at "sd"))⟩)))))))))) (by simpa using hrg)) (fun h => nomatch h) fun _ H1 g1 => ?_
    refine gs_if1 g1 (t_eq (b' := false) (t_ninT2 (hu5 hr) (g_v g1 (pv 1) rfl) (r_callD c_parts (hr.mono (by omega)) (p := (k, Bt)) rfl (ra_cons (isBk_mono _ _ _) (g_v g1 (pv 0) rfl) ra_nil) vb)) (by rw [decide_eq_true hl]; rfl)) (fun h => nomatch h) fun _ H2 g2 => ?_
    obtain ⟨fc, fdc, Fc, hmc, kpc, bdc⟩ := c_chosen.ok
    refine sx_ret (se_of (pe_call Fc hr rfl hmc kpc bdc .nil (fun _ _ _ _ _ _ _ h => h.elim) (E := E0) (ra_cons (isBk_mono C k Bt) (g_v g2 (pv 0) rfl) (ra_D (r_listT B.list (g_v g2 (pv 1) rfl)) ra_nil))) ⟨rfl, Ex.refl _, g2.al, fun vs2 H3 e3 ra => ?_⟩)
    show sCh C (vs2 ++ []) H3 _ _
    rw [List.append_nil]
    have e0 : Ex H H3 := (g2.ex H List.mem_cons_self).trans e3
    exact ⟨S, l.length, vsort (chosenM Bt l), g2.al.ex e3, ⟨(k, Bt, l), ra, ⟨vb, hrg, by show l.length ≤ 100; omega, vb2⟩, rfl, rfl⟩, fun a d H4 e4 h1 h2 h3 h4 => q a d H4 (e0.trans e4) (e0.free h1) (e0.free h2) h3 h4⟩
  · cases hno with
    | non =>

      exact gs_if1 g (t_eq (b' := true) (QT.pt (q_or (y := true) (t_not (t_val (r_isi B.isinstance (g_v g (pv 1) rfl) B.tuple (by decide +kernel) k_non_tup))) (fun h => absurd h (by decide)))) rfl) (fun _ H1 g1 => gs_raise g1 rfl tk RM (hr.mono (by omega)) r_int fun d H2 e h1 h2 => q d H2 ((g1.ex H List.mem_cons_self).trans e) ((g1.ex H List.mem_cons_self).free h1) h2) (fun h => nomatch h)
    | lst l =>

      exact gs_if1 g (t_eq (b' := true) (QT.pt (q_or (y := true) (t_not (t_val (r_isi B.isinstance (g_v g (pv 1) rfl) B.tuple (by decide +kernel) k_lst_tup))) (fun h => absurd h (by decide)))) rfl) (fun _ H1 g1 => gs_raise g1 rfl tk RM (hr.mono (by omega)) r_int fun d H2 e h1 h2 => q d H2 ((g1.ex H List.mem_cons_self).trans e) ((g1.ex H List.mem_cons_self).free h1) h2) (fun h => nomatch h)
    | str z =>

      exact gs_if1 g (t_eq (b' := true) (QT.pt (q_or (y := true) (t_not (t_val (r_isi B.isinstance (g_v g (pv 1) rfl) B.tuple (by decide +kernel) k_str_tup))) (fun h => absurd h (by decide)))) rfl) (fun _ H1 g1 => gs_raise g1 rfl tk RM (hr.mono (by omega)) r_int fun d H2 e h1 h2 => q d H2 ((g1.ex H List.mem_cons_self).trans e) ((g1.ex H List.mem_cons_self).free h1) h2) (fun h => nomatch h)
    | vec l hl100 hl =>

      by_cases hrg : ∀ i ∈ l, 0 ≤ i ∧ i < k
      · refine gs_if1 g (t_eq (b' := false) (QT.pt (q_or (t_not (t_val (r_isi B.isinstance (g_v g (pv 1) rfl) B.tuple (by decide +kernel) k_tup_tup))) (fun _ => (q_one_or (t_not (t_val (r_all rfl B.all (r_lcA (own := [("kind", 2)]) .bool rfl scPart.nd (w_tup (g_v g (pv 1) rfl)) (blkOk_by (N := ["book", "kinds", "kind"]) (sc := defScope sPart) (by decide +kernel)) (fun _ _ _ _ _ => pg_name (i := 2) scPart.nd rfl (by first | exact Or.inl rfl | exact Or.inr rfl)) (by walk_at "sz") (it_name g (j := 2) (by decide) rfl (fun _ => isD_mono _) (fun a2 ha2 _ _ _ g2 => ⟨b_nil, fun hp2 _ _ _ _ _ => (r_callD c_is_index (hr.mono (by omega)) (p := (_, _)) rfl (ra_D (g_v g2 (pv 2) rfl) (ra_D (g_kinds T (g_v g2 (pv 0) rfl)) ra_nil)) (by walk_at "sd"))⟩)))))))))) (by simpa using hrg)) (fun h => nomatch h) fun _ H1 g1 => ?_
        exact gs_if1 g1 (t_eq (b' := true) (t_ninT2 (hu5 hr) (g_v g1 (pv 1) rfl) (r_callD c_parts (hr.mono (by omega)) (p := (k, Bt)) rfl (ra_cons (isBk_mono _ _ _) (g_v g1 (pv 0) rfl) ra_nil) vb)) (by rw [decide_eq_false hl]; rfl)) (fun _ H2 g2 => gs_raise g2 rfl tk RM (hr.mono (by omega)) r_int fun d H3 e h1 h2 => q d H3 ((g2.ex H List.mem_cons_self).trans e) ((g2.ex H List.mem_cons_self).free h1) h2) (fun h => nomatch h)
      · exact gs_if1 g (t_eq (b' := true) (QT.pt (q_or (t_not (t_val (r_isi B.isinstance (g_v g (pv 1) rfl) B.tuple (by decide +kernel) k_tup_tup))) (fun _ => (q_one_or (t_not (t_val (r_all rfl B.all (r_lcA (own := [("kind", 2)]) .bool rfl scPart.nd (w_tup (g_v g (pv 1) rfl)) (blkOk_by (N := ["book", "kinds", "kind"]) (sc := defScope sPart) (by decide +kernel)) (fun _ _ _ _ _ => pg_name (i := 2) scPart.nd rfl (by first | exact Or.inl rfl | exact Or.inr rfl)) (by walk_at "sz") (it_name g (j := 2) (by decide) rfl (fun _ => isD_mono _) (fun a3 ha3 _ _ _ g3 => ⟨b_nil, fun hp3 _ _ _ _ _ => (r_callD c_is_index (hr.mono (by omega)) (p := (_, _)) rfl (ra_D (g_v g3 (pv 2) rfl) (ra_D (g_kinds T (g_v g3 (pv 0) rfl)) ra_nil)) (by walk_at "sd"))⟩)))))))))) (by simpa using hrg)) (fun _ H1 g1 => gs_raise g1 rfl tk RM (hr.mono (by omega)) r_int fun d H2 e h1 h2 => q d H2 ((g1.ex H List.mem_cons_self).trans e) ((g1.ex H List.mem_cons_self).free h1) h2) (fun h => nomatch h)
end
end N34

set_option Elab.async false
set_option linter.all false
set_option maxRecDepth 100000
set_option maxHeartbeats 1000000
/-! _law_refused -/
namespace N34
open PySem PySem.Spec PyProof.Rows L2
def tryB : List Stmt → List Stmt
  | .Try b _ _ _ _ :: _ => b
  | _ => []
def tryS : List Stmt → List Stmt
  | .Try _ [.ExceptHandler _ _ b _] _ _ _ :: _ => b
  | _ => []
def swap2 {α : Type} : List α → List α
  | [a, b] => [b, a]
  | l => l
theorem swap2_len {α : Type} (l : List α) : (swap2 l).length = l.length := by
  unfold swap2; split <;> rfl
theorem swap2_rel : ∀ {zs : List V} {ws : List Value}, Vals zs ws → Vals (swap2 zs) (swap2 ws)
  | _, _, .nil => .nil
  | _, _, .cons r .nil => .cons r .nil
  | _, _, .cons r (.cons r2 .nil) => .cons r2 (.cons r .nil)
  | _, _, .cons r (.cons r2 (.cons r3 h)) => .cons r (.cons r2 (.cons r3 h))
/-- what may be asked: a lot, what is no lot -/
theorem tc_of {X : Cx} {c : Expr} {t : TT} {σ : L2.St} {H : Hp} {Q : Bool → Hp → Prop} (h : PT X c t) (q : t σ H Q) : tcAll X c σ H Q := fun pins s I => h.run pins s σ H Q I q
structure RfxF (K : PySem.W.Frag) (Rf : Addr) : Prop where
  xf : XfC K Rf
  exm : PySem.W.exmOne K (.ref Rf) (.ref Rf) = some true
local macro_rules | `(tactic| walk_at "leg") => `(tactic| repeat (first | exact LeG.nil | apply LeG.keep | apply LeG.drop))
section
variable {P : Program} {w : World} {K : PySem.W.Frag} {mg : Str → Option Value} {base : Heap} {C Rf : Addr}
abbrev sRfd (C : Addr) := spF fun vs F R => ∃ k B dv, AllR [isBk C k B, isD dv] vs F ∧ VB k B ∧ ((∃ l, dv = vec l ∧ l ∈ partsM k B ∧ VB l.length (chosenM B l) ∧ ∀ v F', Dt F' v .none → R v F') ∨ (NoLot k B dv ∧ ∀ v F', Dt F' v (.int 0) → R v F'))
-- def _law_refused _law_book_here:B _law_kinds:X
theorem scLawRefused : FnScope ["_law_book_here", "_law_kinds", "wrong"] ["_law_book_here", "_law_kinds"] (defScope sLawRefused) := ⟨rfl, rfl, rfl, by decide +kernel, rfl, by decide +kernel, by decide +kernel⟩
theorem ok_lawRefused (B : Bl mg) (T : BkF K C) (F : FnAt K mg "_law_refused" sLawRefused) (RM : RfM P w K mg base Rf) (RX : RfxF K Rf) (c_part : ClF P w K mg base (L2.CX P w) "part" sPart 7 ["book", "kinds"] (spPt C Rf)) :
    Cl P w K mg base "_law_refused" 8 ["_law_book_here", "_law_kinds"] (sRfd C) := by
  refine cl_of F scLawRefused (fun vs F R ⟨k, B, dv, h, _⟩ => h.length) (fun _ _ _ _ _ _ us hl => match us, hl with | [_, _], _ => rfl) fun f cdv A outer s H vs S R E hr al ⟨k, Bt, dv, ha, vb, ways⟩ => ?_
  obtain ⟨fp, fdp, Fp, hmp, Fdp⟩ := c_part.ok
  obtain ⟨fI, fdI, RF, _, _⟩ := RM.ok
  have g := Sg.start (Rs := [isBk C k Bt, isD dv]) (N := ["_law_book_here", "_law_kinds", "wrong"]) al (⟨isBk_mono _ _ _, isD_mono _, trivial⟩ : MonoA [isBk C k Bt, isD dv]) ha (by rw [ha.length]; exact Nat.le_of_ble_eq_true rfl)
  refine sw_cons (ps_try_as (X := cxD P w K mg base ["_law_book_here", "_law_kinds", "wrong"] "_law_refused" sLawRefused f cdv A outer s H E) (i := 2)
    (tb := fun W D σ H' => ∀ pn xe, Takes ((cxD P w K mg base ["_law_book_here", "_law_kinds", "wrong"] "_law_refused" sLawRefused f cdv A outer s H E).tr pn xe) W → SW ((cxD P w K mg base ["_law_book_here", "_law_kinds", "wrong"] "_law_refused" sLawRefused f cdv A outer s H E).tr pn xe) D (tryB (defBody sLawRefused)) σ H')
    (ts := fun a cls d D σ H' => ∀ oe pn, Zc cls d oe → (∃ vs, oe.data = .fields vs) → SW ((cxD P w K mg base ["_law_book_here", "_law_kinds", "wrong"] "_law_refused" sLawRefused f cdv A outer s H E).suite a ((a, oe) :: pn)) D (tryS (defBody sLawRefused)) σ H')
    rfl rfl scLawRefused.nd rfl rfl ⟨rfl, by decide, .inl RM.glo⟩ takes0 (fun W pn xe tk po => ⟨fun pins s σ H D I h => (h pn xe tk).run pins s I⟩) (fun a oe cls d pn hz hf => ⟨fun pins s σ H D I h => (h oe pn hz hf).run pins s I⟩)) (fun pn xe tk => ?_)
  refine sx_ret (se_of (pe_ifExp pt_all pe_SE pe_SE) ?_)
  refine tc_of (pt_cmpR op_gt pe_SE pe_SE (nomark _)) ?_
  refine se_of (pe_fld (f := "kinds") pe_SE rfl) ?_
  refine se_of (pe_callK0 (ks := ["kinds", "book"]) (g := swap2) (gV := swap2) Fp hr rfl hmp Fdp.kp (FunD.kwN Fdp fun _ _ _ _ _ _ ws hl => match ws, hl with | [_, _], _ => rfl) swap2_rel (fun zs H Q E ⟨_, _, _, _, _, h, _⟩ => (swap2_len zs).symm.trans h.length) (fun σ => passAt tk σ) (pk_cons pe_SE (pk_cons pe_SE pk_nil))) ?_
  refine se_g g (g_v g (pv 1) rfl) fun x1 H1 g1 e1 r1 => se_g g1 (g_v g1 (pv 0) rfl) fun x2 H2 g2 e2 r2 => ?_
  unfold tNil
  simp only [swap2]
  have eH : Ex H H2 := e1.trans e2
  refine ⟨S, k, Bt, dv, g2.al, ⟨_, _, rfl, r2, _, _, rfl, (isD_mono dv) _ _ _ (hid_ex e2) r1, rfl⟩, vb, ?_⟩
  rcases ways with ⟨l, rfl, hl, vb2, q⟩ | ⟨hno, q⟩
  · refine .inl ⟨l, rfl, hl, vb2, fun a d H3 e3 ha3 hd3 hdk hb => ?_⟩
    obtain ⟨a', dx, t, ea, h1, h2⟩ := hb
    obtain rfl : a = a' := by cases ea; rfl
    have hp := vb2.pos
    refine ⟨a, C, dx, _, .int l.length, rfl, hid_le _ _ h1, T.cls, T.nk, rfl, se_of pe_int ⟨l.length, 0, rfl, rfl, decide (0 < (l.length : Int)), rfl, ?_⟩⟩
    rw [if_pos (by simpa using hp)]
    exact se_of pe_non ⟨eH.trans e3, q _ _ .non⟩
  · refine .inr ⟨hno, fun dx H3 e3 hd3 hdx => ⟨true, RX.exm, fun _ a ha oe pn hz hf => ?_, fun h => nomatch h⟩⟩
    refine sx_ret (se_of (pe_xf (C := Rf) RX.xf RF.noat hz hf (pv 2)) ⟨.ref a, ?_, rfl, rfl, dx, _, .int 0, rfl, hdx, rfl, ?_⟩)
    · rw [List.getElem?_set_self (by rw [g2.len]; exact Nat.le_of_ble_eq_true rfl)]
    · exact ⟨eH.trans e3, q _ _ (.int 0)⟩
end
end N34

set_option Elab.async false
set_option linter.all false
set_option maxRecDepth 100000
set_option maxHeartbeats 1000000
/-! the deal's cells, what is only known in part, comprehensions with effects -/
namespace N34
open PySem PySem.Spec PyProof.Rows L2
/-- some of a family -/
abbrev exR {τ : Type} (P : τ → Prop) (F : τ → PyData) : RV := fun v H => ∃ t, P t ∧ Dt H v (F t)
theorem exR_mono {τ : Type} (P : τ → Prop) (F : τ → PyData) : Mono (exR P F) := fun _ _ _ e ⟨t, p, h⟩ => ⟨t, p, h.mono e⟩
abbrev rgR (lo hi : Int) : RV := exR (fun i : Int => lo ≤ i ∧ i < hi) .int
abbrev outC (il : Addr) : CR := fun o _ => ∃ b : Int, (0 ≤ b ∧ b < 2147483647) ∧ o = .lst [.ref il, .int b]
abbrev inC : CR := fun o _ => ∃ ns : List Int, (∀ x ∈ ns, 0 ≤ x) ∧ ns.length ≤ 48 ∧ o = .lst (ns.map .int)
abbrev dM (dl il : Addr) : Ce := [(dl, outC il), (il, inC)]
theorem outC_mono (il : Addr) : MonoC (outC il) := ⟨fun _ _ _ _ h => h, fun o _ ⟨_, _, h⟩ => by rw [h]; exact .lst⟩
theorem inC_mono : MonoC inC := ⟨fun _ _ _ _ h => h, fun o _ ⟨_, _, _, h⟩ => by rw [h]; exact .lst⟩
section
variable {S S' : List Addr} {Bs : List Hp} {Γ Γ' Γ2 : Ga} {M M' M2 : Ce} {σ σ2 : L2.St} {H H2 : Hp} {C : CR} {l : Addr} {i j : Nat}
/-- the cells in another order, less told -/
theorem Sg.cells (g : Sg S Bs Γ M σ H) (h : ∀ q ∈ M', ∃ p ∈ M, p.1 = q.1 ∧ MonoC q.2 ∧ ∀ o F, p.2 o F → q.2 o F) (nd : (M'.map (·.1)).Nodup) : Sg S Bs Γ M' σ H :=
  ⟨g.al, g.ex, g.len, g.sl, fun q hq => by
    obtain ⟨p, hp, e, m, f⟩ := h q hq
    obtain ⟨h1, h2, _, o, h3, h4⟩ := g.ce p hp
    rw [← e]
    exact ⟨h1, h2, m, o, h3, f _ _ h4⟩, nd⟩
theorem Sg.perm (g : Sg S Bs Γ M σ H) (h : M.Perm M') : Sg S Bs Γ M' σ H :=
  g.cells (fun q hq => ⟨q, h.mem_iff.mpr hq, rfl, (g.ce q (h.mem_iff.mpr hq)).2.2.1, fun _ _ h => h⟩) ((h.map (·.1)).nodup_iff.mp g.nd)
theorem set_fst {p : Addr × CR} (hM : M[j]? = some p) (C : CR) : (M.set j (p.1, C)).map (·.1) = M.map (·.1) := by
  refine List.ext_getElem? fun n => ?_
  rw [List.getElem?_map, List.getElem?_map]
  by_cases e : j = n
  · subst e
    obtain ⟨h1, _⟩ := List.getElem?_eq_some_iff.mp hM
    rw [List.getElem?_set_self h1, hM]; rfl
  · rw [List.getElem?_set_ne e]
theorem Sg.opn (g : Sg S Bs Γ M σ H) (hM : M[j]? = some (l, C)) : ∃ o, C o (hid S H) ∧ NT o ∧ Sg S Bs Γ (M.set j (l, eqC o)) σ H := by
  obtain ⟨h1, h2, m, o, h3, h4⟩ := g.ce (l, C) (List.mem_of_getElem? hM)
  refine ⟨o, h4, m.nt _ _ h4, g.al, g.ex, g.len, g.sl, fun q hq => ?_, by rw [set_fst hM]; exact g.nd⟩
  rcases List.mem_or_eq_of_mem_set hq with z | z
  · exact g.ce q z
  · rw [z]; exact ⟨h1, h2, eqC_mono (m.nt _ _ h4), o, h3, rfl⟩
/-- the slots of before, the cells of now -/
theorem Sg.reslot (g : Sg S Bs Γ M σ H) (g2 : Sg S Bs Γ2 M2 σ2 H2) (e : Ex (hid S H) (hid S H2)) : Sg S Bs Γ M2 σ H2 :=
  ⟨g2.al, g2.ex, g.len, fun i R h => have ⟨m, v, h1, h2⟩ := g.sl i R h; ⟨m, v, h1, m _ _ _ e h2⟩, g2.ce, g2.nd⟩
end
theorem tn {i : Int} {n : Nat} (h0 : 0 ≤ i) (h : i < n) : i.toNat < n := by omega
theorem ixN_rg {n : Nat} {i : Int} (h0 : 0 ≤ i) (h : i < n) : ixN n i = some i.toNat := by
  unfold ixN
  rw [if_pos h0, if_pos h]
section
variable {X : Cx} {S : List Addr} {Bs : List Hp} {Γ Γ' : Ga} {M M' M1 M2 Ma Mb : Ce} {R Ra Rb Rz : RV} {a b e c o elt tg iter value : Expr} {es ifs : List Expr} {pos p : Pos} {d : PyData} {ds : List PyData} {σ σ0 : L2.St} {H H0 : Hp} {α β τ υ : Type} {scope : Scope} {l : Addr} {i j : Nat} {D : Ends} {rest : List Stmt} {Q : VK}
theorem r_eqW {xs ys : List α} {enc : α → RV} (h : PI X tg e (tW S σ H xs enc)) (q : xs = ys) : PI X tg e (tW S σ H ys enc) := q ▸ h
theorem e_perm (h : PE X e (tG S Bs Γ Ma Mb R)) (h1 : M.Perm Ma) (h2 : Mb.Perm M') : PE X e (tG S Bs Γ M M' R) :=
  PE_imp h fun σ H Q ⟨g, k⟩ => ⟨g.perm h1, fun v H2 g2 e r => k v H2 (g2.perm h2) e r⟩
theorem e_opA {P : τ → Prop} {F : τ → Int} {i : Int} (ha : PE X a (tG S Bs Γ M M1 (isD (.int i)))) (hb : PE X b (tG S Bs Γ M1 M2 (exR P fun t => .int (F t)))) : PE X (.BinOp a .Add b pos) (tG S Bs Γ M M2 (exR P fun t => .int (i + F t))) :=
  e_op op_add ha hb (isD_mono _) fun x y H _ hx ⟨t, pt, hy⟩ Q k => ⟨i, F t, hx.intI, hy.intI, k _ H (Ex.refl _) ⟨t, pt, .int _⟩⟩
theorem e_int {P : τ → Prop} {F : τ → Int} (hm : X.mg "int" = none) (ha : PE X a (tG S Bs Γ M M1 (exR P fun t => .int (F t)))) (hg : Gl X "int" := by rfl) (hs : starEach [a] X.env = (false, eval a X.env) :: starEach [] X.env := by rfl) : PE X (.Call (.Name "int" p) [a] [] pos) (tG S Bs Γ M M1 (exR P fun t => .int (F t))) :=
  e_callTy call_int1 hm (by decide +kernel) (ea_cons (exR_mono _ _) ha ea_nil hs) (fun vs H _ h Q k => by
    obtain ⟨v, ws, rfl, ⟨t, pt, h1⟩, h2⟩ := h
    obtain rfl : ws = [] := h2
    exact .inl ⟨F t, by rw [h1.intI], k _ H (Ex.refl _) ⟨t, pt, .int _⟩⟩) hg (he := hs)
/-- a list of data read where the index is only known to lie in it -/
theorem e_ixL {P : PyData → Prop} {n : Int} (ha : PE X a (tG S Bs Γ M M1 (isD (.list ds)))) (hb : PE X b (tG S Bs Γ M1 M2 (rgR 0 n))) (hn : n = ds.length) (h : ∀ d ∈ ds, P d) (hs : PlainIx b := by exact fun _ _ => rfl) : PE X (.Subscript a b pos) (tG S Bs Γ M M2 (exR P id)) :=
  e_ix ix_list ha hb (isD_mono _) (fun x y H _ hx ⟨i, hi, hy⟩ Q k => by
    obtain ⟨p, xs, rfl, h3, h4⟩ := hx.lstI
    have hl : i.toNat < ds.length := by omega
    obtain ⟨v, hv, hd⟩ := h4.get (i := i.toNat) (d := ds[i.toNat]) (by simp [hl])
    exact ⟨p, xs, i, v, rfl, hy.intI, SqL.of (hid_le _ _ h3), by unfold atI; rw [h4.length, ixN_rg hi.1 (by omega)]; exact hv, k _ _ (Ex.refl _) ⟨_, h _ (List.getElem_mem hl), hd⟩⟩) hs
theorem e_ixT {P : τ → Prop} {F : τ → List PyData} {G : τ → PyData} {i : Int} (ha : PE X a (tG S Bs Γ M M1 (exR P fun t => .tuple (F t)))) (hb : PE X b (tG S Bs Γ M1 M2 (isD (.int i)))) (h : ∀ t, atI (F t) i = some (G t)) (hs : PlainIx b := by exact fun _ _ => rfl) : PE X (.Subscript a b pos) (tG S Bs Γ M M2 (exR P G)) :=
  e_ix ix_tup ha hb (exR_mono _ _) (fun x y H _ ⟨t, pt, hx⟩ hy Q k => by
    obtain ⟨p, xs, rfl, h3, h4⟩ := hx.tupI
    have h := h t
    unfold atI at h
    cases q : ixN (F t).length i with
    | none => rw [q] at h; cases h
    | some j =>
      rw [q] at h
      obtain ⟨v, hv, hd⟩ := h4.get (show (F t)[j]? = some (G t) from h)
      exact ⟨p, xs, i, v, rfl, hy.intI, SqT.of (hid_le _ _ h3), by unfold atI; rw [h4.length, q]; exact hv, k _ _ (Ex.refl _) ⟨t, pt, hd⟩⟩) hs
theorem e_slL {P : τ → Prop} {F : τ → List PyData} {n : Nat} {kk : Nat} {p1 p2 : Pos} (ha : PE X e (tG S Bs Γ M M1 (exR P fun t => .list (F t)))) : PE X (.Subscript e (.Slice none (some (.Constant (.int n) kk p1)) none p2) pos) (tG S Bs Γ M M1 (exR P fun t => .list ((F t).take n))) :=
  PE_imp (pe_slice sl_list ha (PO_imp po_none (t' := fun σ H Q => Q none H) fun _ _ _ h => h) (PO_imp (po_some pe_int) (t' := fun σ H Q => Q (some (n : Int)) H) fun _ _ _ h => ⟨_, rfl, h⟩)) fun σ H Q ⟨g, k⟩ => ⟨g, fun v H1 g1 e1 ⟨t, pt, r⟩ => by
    obtain ⟨a, xs, rfl, h3, h4⟩ := r.lstI
    refine ⟨a, xs, rfl, SqL.of (hid_le _ _ h3), fun p hp => ?_⟩
    have e : cutV xs none (some (n : Int)) = xs.take n := by
      unfold cutV
      have z : HT.sIx xs.length 0 none = 0 := rfl
      rw [z, sIx_hi, List.drop_zero, Nat.sub_zero]
      by_cases c : n ≤ xs.length
      · rw [Nat.min_eq_left c]
      · rw [Nat.min_eq_right (by omega), List.take_length, List.take_of_length_le (by omega)]
    refine k _ _ (g1.next (Ex.new hp)) (e1.trans (hid_ex (Ex.new hp))) ⟨t, pt, .lst (xs := xs.take n) (by rw [hid_new g1.al hp, e]) ?_⟩
    exact (h4.take n).mono (hid_ex (Ex.new hp))⟩
theorem e_ifE (hc : ∀ σ H, Sg S Bs Γ M σ H → PT X c (tRT S σ H x)) (ha : x = true → PE X a (tG S Bs Γ M M' R)) (hb : x = false → PE X b (tG S Bs Γ M M' R)) : PE X (.IfExp c a b pos) (tG S Bs Γ M M' R) := by
  cases x with
  | true => exact PE_imp (pe_ifExp (et_of hc) (ha rfl) (pe_all X b)) fun σ H Q ⟨g, k⟩ => ⟨g, fun H1 g1 e1 => iteT <| ⟨g1, fun v H2 g2 e2 r => k v H2 g2 (e1.trans e2) r⟩⟩
  | false => exact PE_imp (pe_ifExp (et_of hc) (pe_all X a) (hb rfl)) fun σ H Q ⟨g, k⟩ => ⟨g, fun H1 g1 e1 => iteF <| ⟨g1, fun v H2 g2 e2 r => k v H2 g2 (e1.trans e2) r⟩⟩
/-! ### cells -/
theorem g_ixE {xs : List V} {k : Int} {v : V} (g : Sg S Bs Γ M σ H) (hM : M[j]? = some (l, eqC (.lst xs))) (ha : PE X a (tR S σ H (isR l))) (hb : PE X b (tR S σ H (isD (.int k)))) (h : atI xs k = some v) (hR : ∀ F, R v F) (hs : PlainIx b := by exact fun _ _ => rfl) : PE X (.Subscript a b pos) (tR S σ H R) :=
  PE_imp (pe_ix ix_list ha hb hs) fun σ' H' Q ⟨q, ex, al, kk⟩ => ⟨q, ex, al, fun x H1 e1 rx => ⟨q, ex.trans e1, al.ex e1, fun y H2 e2 ry => by
    obtain rfl : x = .ref l := rx
    obtain ⟨hS, _, _, o, ho, rfl⟩ := g.ce (l, eqC (.lst xs)) (List.mem_of_getElem? hM)
    exact ⟨l, xs, k, v, rfl, ry.intI, SqL.of (((ex.trans e1).trans e2) _ _ ho), h, kk _ _ (e1.trans e2) (hR _)⟩⟩⟩
theorem t_neNilC {p : Pos} (g : Sg S Bs Γ M σ H) (hu : X.A.units + 64 < cLine) (hM : M[j]? = some (l, lisC ds)) (ha : PE X a (tR S σ H (isR l))) (hs : SeqAt.shaped (.list ds) = true) : PT X (.Compare a [.NotEq] [.List [] p] pos) (tRT S σ H (!decide (ds.length = 0))) :=
  PT_cmp_of (op_neD hu) ha (r_lst (ds := []) ra_nil) (isR_mono l) (fun x y H' e _ hx hy Q k => by
    obtain rfl : x = .ref l := hx
    obtain ⟨hS, _, _, o, ho, xs, rfl, dx⟩ := g.ce (l, lisC ds) (List.mem_of_getElem? hM)
    refine ⟨.list ds, .list [], .lst (SqL.of (e _ _ ho)) ((dx.mono (hid_ex e)).mono hid_le).dp, (hy.mono hid_le).dp, hs, rfl, ?_⟩
    rw [eqv_nil]
    exact k _ H' (Ex.refl _) (.bl _)) (nomark _)
theorem t_ninVC {B : List (List Int)} {w : List Int} (g : Sg S Bs Γ M σ H) (hu : X.A.units + 65 < cLine) (hM : M[j]? = some (l, lisC (B.map vec))) (ha : PE X a (tR S σ H (isD (vec w)))) (hb : PE X b (tR S σ H (isR l))) (hk : behindInMarks .NotIn b = false := by rfl) : PT X (.Compare a [.NotIn] [b] pos) (tRT S σ H (!decide (w ∈ B))) :=
  PT_cmp_of (op_notInD hu) ha hb (isD_mono _) (fun x y H' e _ hx hy Q k => by
    obtain rfl : y = .ref l := hy
    obtain ⟨hS, _, _, o, ho, xs, rfl, dx⟩ := g.ce (l, lisC (B.map vec)) (List.mem_of_getElem? hM)
    refine ⟨vec w, B.map vec, (hx.mono hid_le).dp, .lst (SqL.of (e _ _ ho)) ((dx.mono (hid_ex e)).mono hid_le).dp, shp_vec w, shp_lvec B, ?_⟩
    rw [any_vec]
    exact k _ H' (Ex.refl _) (.bl _)) hk
theorem e_pop {apos : Pos} {n : Nat} (ho : ∀ σ H, Sg S Bs Γ M σ H → PE X o (tR S σ H (isR l))) (hM : M[j]? = some (l, lisC ds)) (hn : ds.length = n + 1) (hd : ds[n]? = some d)
    (hbase : attributeBase o "pop" X.env (eval o X.env) = eval o X.env := by rfl) (hline : (apos.endLine == pos.line) = true := by rfl) : PE X (.Call (.Attribute o "pop" apos) [] [] pos) (tG S Bs Γ M (M.set j (l, lisC ds.dropLast)) (isD d)) :=
  PE_imp (pe_bm0 PySem.F.plainAttrs_list PySem.F.slot_list_pop PySem.F.type_list_pop mt_pop (e_of ho) hbase hline) fun σ H Q ⟨g, k⟩ => ⟨g, fun v H1 g1 e1 r => by
    obtain rfl : v = .ref l := r
    obtain ⟨hS, _, _, o, ho, xs, rfl, dx⟩ := g1.ce (l, lisC ds) (List.mem_of_getElem? hM)
    obtain ⟨u, hu, du⟩ := dx.get hd
    refine ⟨.inl ⟨rfl, xs, SqL.of ho⟩, l, xs, u, rfl, rfl, ho, by rw [dx.length, hn]; exact hu, k _ _ (g1.put hM (lisC_mono _) ⟨_, rfl, by rw [List.dropLast_eq_take, List.dropLast_eq_take, dx.length]; exact dx.take _⟩) ?_ ?_⟩
    · rw [hid_upd hS]; exact e1
    · rw [hid_upd hS]; exact du⟩
theorem DtA.erase {H : Hp} : ∀ {vs : List V} {ds : List PyData} (n : Nat), DtA H vs ds → DtA H (vs.eraseIdx n) (ds.eraseIdx n)
  | _, _, _, .nil => .nil
  | _, _, 0, .cons _ r => r
  | _, _, n + 1, .cons h r => .cons h (DtA.erase n r)
/-- l.pop(e), the place only known to lie in l -/
theorem se_popAt {apos : Pos} {n : Int} (g : Sg S Bs Γ M σ H) (ho : ∀ σ H, Sg S Bs Γ M σ H → PE X o (tR S σ H (isR l))) (he : PE X e (tG S Bs Γ M M1 (rgR 0 n))) (hM0 : M[j]? = some (l, lisC ds)) (hM : M1[j]? = some (l, lisC ds)) (hn : n = ds.length) (hl : ds.length < 1000000)
    (k : ∀ m d, ds[m]? = some d → ∀ v H2, Sg S Bs Γ (M1.set j (l, lisC (ds.eraseIdx m))) σ H2 → Dt (hid S H2) v d → Q v H2)
    (hbase : attributeBase o "pop" X.env (eval o X.env) = eval o X.env := by rfl)
    (hfew : ((backTo pos (starEach [e] X.env)).all (fun x => !x.1) && (backToKw pos (keywordEach [] X.env)).all (fun x => x.1.isSome) && decide (([e] : List Expr).length + ([] : List Keyword).length + (if ([] : List Keyword).isEmpty then 0 else 1) < 30)) = true := by rfl)
    (hline : (apos.endLine == pos.line) = true := by rfl) (hs : starEach [e] X.env = (false, eval e X.env) :: starEach [] X.env := by rfl) : SE X (.Call (.Attribute o "pop" apos) [e] [] pos) σ H Q :=
  se_of (pe_bm PySem.F.plainAttrs_list PySem.F.slot_list_pop PySem.F.type_list_pop mt_popAt (e_of ho) (ea_cons (exR_mono _ _) he ea_nil hs) hbase hfew hline hs) ⟨g, fun v H1 g1 e1 r => by
    obtain rfl : v = .ref l := r
    obtain ⟨_, _, _, o, ho, xs, rfl, _⟩ := g1.ce (l, lisC ds) (List.mem_of_getElem? hM0)
    refine ⟨.inl ⟨rfl, xs, SqL.of ho⟩, g1, fun vs H2 g2 e2 ra => ?_⟩
    obtain ⟨y, ys, rfl, ⟨i, hi, dy⟩, hy⟩ := ra
    obtain rfl : ys = [] := hy
    obtain ⟨hS, _, _, o2, ho2, xs2, rfl, d2⟩ := g2.ce (l, lisC ds) (List.mem_of_getElem? hM)
    obtain ⟨hi0, hi1⟩ : 0 ≤ i ∧ i < n := hi
    have hlt : i.toNat < ds.length := by omega
    obtain ⟨u, hu, du⟩ := d2.get (i := i.toNat) (d := ds[i.toNat]) (by simp [hlt])
    refine ⟨l, xs2, i, i.toNat, u, rfl, by rw [dy.intI], ho2, by omega, by omega, ?_, hu, k i.toNat ds[i.toNat] (by simp [hlt]) _ _ (g2.put hM (lisC_mono _) ⟨_, rfl, d2.erase _⟩) ?_⟩
    · rw [d2.length]; exact (ixN_seq (ixN_rg hi0 (by omega))).1
    · rw [hid_upd hS]; exact du⟩
/-- l.append(e), e by what it reaches -/
theorem se_app {apos : Pos} {ds0 : List PyData} (g : Sg S Bs Γ M σ H) (ho : PE X o (tR S σ H (isR l))) (hM0 : M[j]? = some (l, lisC ds0))
    (he : ∀ H1, Sg S Bs Γ M σ H1 → SE X e σ H1 fun v H2 => ∃ M1 d ds, Sg S Bs Γ M1 σ H2 ∧ M1[j]? = some (l, lisC ds) ∧ Dt (hid S H2) v d ∧ ds.length < 1000000 ∧ ∀ H3, Sg S Bs Γ (M1.set j (l, lisC (ds ++ [d]))) σ H3 → Q .non H3)
    (hbase : attributeBase o "append" X.env (eval o X.env) = eval o X.env := by rfl)
    (hfew : ((backTo pos (starEach [e] X.env)).all (fun x => !x.1) && (backToKw pos (keywordEach [] X.env)).all (fun x => x.1.isSome) && decide (([e] : List Expr).length + ([] : List Keyword).length + (if ([] : List Keyword).isEmpty then 0 else 1) < 30)) = true := by rfl)
    (hline : (apos.endLine == pos.line) = true := by rfl) (hs : starEach [e] X.env = (false, eval e X.env) :: starEach [] X.env := by rfl) : SE X (.Call (.Attribute o "append" apos) [e] [] pos) σ H Q :=
  se_of (pe_bm PySem.F.plainAttrs_list PySem.F.slot_list_append PySem.F.type_list_append mt_append ho (pa_cons pe_SE pa_nil hs) hbase hfew hline hs) ⟨rfl, Ex.refl _, g.al, fun v H1 e1 r => by
    obtain rfl : v = .ref l := r
    have g1 := g.next e1
    obtain ⟨_, _, _, o, ho, xs, rfl, _⟩ := g1.ce (l, lisC ds0) (List.mem_of_getElem? hM0)
    refine ⟨.inl ⟨rfl, xs, SqL.of ho⟩, SE_mono (he H1 g1) fun v H2 ⟨M1, d, ds, g2, hM, dv, hl, k⟩ => ?_⟩
    obtain ⟨hS, _, _, o2, ho2, xs2, rfl, d2⟩ := g2.ce (l, lisC ds) (List.mem_of_getElem? hM)
    exact ⟨l, xs2, v, rfl, rfl, ho2, szB (by rw [d2.length]; omega), k _ (g2.put hM (lisC_mono _) ⟨xs2 ++ [v], rfl, d2.append (.cons dv .nil)⟩)⟩⟩
/-- l[k] = i, l a cell that is told -/
theorem gs_lputE {xs : List V} {k i : Int} {n : Nat} {ii : Expr} {pos' : Pos} (g : Sg S Bs Γ M σ H) (hv : PE X value (tR S σ H (isD (.int i)))) (ho : ∀ H, Sg S Bs Γ M σ H → PE X o (tR S σ H (isR l))) (hi : ∀ H, Sg S Bs Γ M σ H → PE X ii (tR S σ H (isD (.int k)))) (hM : M[j]? = some (l, eqC (.lst xs))) (hn : ixN xs.length k = some n)
    (kk : ∀ H', Sg S Bs Γ (M.set j (l, eqC (.lst (xs.set n (.int i))))) σ H' → SW X D rest σ H') (hs : swapsWithSole [.Subscript o ii pos'] value pos.line X.env = pure false := by rfl) (hw : swappedStores [.Subscript o ii pos'] value X.env = pure none := by rfl)
    (h1 : (assignEach [.Subscript o ii pos'] X.env).map (·.2) = [assign (.Subscript o ii pos') X.env] := by rfl)
    (ha : ∀ v, assign (.Subscript o ii pos') X.env v = (do
      let ov ← holding [v] (eval o X.env)
      let iv ← holding [v, ov] (eval ii X.env)
      standAt pos'
      holding [v, ov, iv] (setItem ov iv v)
      release [v, ov, iv] []) := by intro _; rfl) : SW X D (.Assign [.Subscript o ii pos'] value pos :: rest) σ H :=
  sw_cons (ps_asg pe_SE (pg_sub pe_SE pe_SE set_list ha) hs hw h1) (se_g g hv fun v H1 g1 e1 rv => se_g g1 (ho H1 g1) fun x H2 g2 e2 rx => se_g g2 (hi H2 g2) fun y H3 g3 e3 ry => by
    obtain rfl : x = .ref l := rx
    obtain rfl := ry.intI
    obtain rfl := rv.intI
    obtain ⟨hS, _, _, o3, ho3, rfl⟩ := g3.ce (l, eqC (.lst xs)) (List.mem_of_getElem? hM)
    exact ⟨l, xs, k, n, rfl, rfl, ho3, hn, kk _ (g3.put hM (eqC_mono .lst) rfl)⟩)
/-- what comes with each -/
inductive All2 {ζ : Type} (P : ζ → PyData → Prop) : List ζ → List PyData → Prop
  | nil : All2 P [] []
  | cons {y : ζ} {u : PyData} {ys : List ζ} {us : List PyData} : P y u → All2 P ys us → All2 P (y :: ys) (u :: us)
theorem All2.app {P : α → PyData → Prop} : ∀ {l m : List α} {ds es : List PyData}, All2 P l ds → All2 P m es → All2 P (l ++ m) (ds ++ es)
  | _, _, _, _, .nil, h => h
  | _, _, _, _, .cons a r, h => .cons a (r.app h)
theorem All2.len {P : α → PyData → Prop} : ∀ {l : List α} {ds : List PyData}, All2 P l ds → ds.length = l.length
  | _, _, .nil => rfl
  | _, _, .cons _ r => congrArg Nat.succ r.len
theorem teB_X {S' : List Addr} {Γ' : Ga} {M' M2 : Ce} {σ' : L2.St} {H : Hp} {Q : VK} (h : Blk X scope fun Y => PE Y e (tG S' Bs Γ' M' M2 R)) (g : Sg S' Bs Γ' M' σ' H) (k : ∀ v H2, Sg S' Bs Γ' M2 σ' H2 → Ex (hid S' H) (hid S' H2) → R v (hid S' H2) → Q v H2) : teB X scope e σ' H Q := fun s H1 C cl fp pins s' I => (h s H1 C cl fp).run pins s' σ' H Q I ⟨g, k⟩
def wG {α : Type} (S : List Addr) (Bs : List Hp) (Γ : Ga) (M : Ce) (xs : List α) (enc : α → RV) : TI := fun σ H R => Sg S Bs Γ M σ H ∧ ∀ J H1, Ex H H1 → Wk J S H1 xs enc → R J H1
theorem pi_wG {xs : List α} {enc : α → RV} (hi : ∀ σ H, Sg S Bs Γ M σ H → PI X tg iter (tW S σ H xs enc)) : PI X tg iter (wG S Bs Γ M xs enc) := ⟨fun pins s σ H R I ⟨g, k⟩ => (hi σ H g).run pins s σ H R I ⟨rfl, Ex.refl _, g.al, k⟩⟩
/-- a comprehension whose elements change cells -/
theorem lc_G {xs : List α} {enc : α → RV} {vs : List Nat} {Pd : α → PyData → Prop} (hj : j ∈ vs) (hlj : Nat.blt j Γ.length = true) (me : ∀ a, Mono (enc a)) (hl : xs.length ≤ 100000)
    (h : ∀ a ∈ xs, ∀ S' C, (∀ b ∈ S, b ∈ S') → Blk X scope fun Y => PE Y elt (tG S' Bs ((wipeG Γ vs).set j (some (enc a))) (C :: M) (C :: M) (exR (Pd a) id))) (σ : L2.St) (H : Hp) (Q : VK) (hq : tG S Bs Γ M M (exR (All2 Pd xs) .list) σ H Q) : tLc (wG S Bs Γ M xs enc) (gName j) (ttB X scope []) (teB X scope elt) vs σ H Q := by
  obtain ⟨g, k⟩ := hq
  refine ⟨g, fun J H1 e1 W D hD => ?_⟩
  have g1 := g.next e1
  have aD : D ∉ S := g1.al.out hD
  have g2 : Sg (D :: S) Bs Γ ((D, lisC []) :: M) σ (upd H1 D (.lst [])) := g1.fresh (Ex.refl _) hD (lisC_mono _) ⟨[], rfl, .nil⟩
  refine ⟨fun m n Hm => n = xs.length - m ∧ m ≤ xs.length ∧ Ex (hid S H1) (hid (D :: S) Hm) ∧ ∃ ds, All2 Pd (xs.take m) ds ∧ Sg (D :: S) Bs Γ ((D, lisC ds) :: M) σ Hm, ⟨xs.length, by simp, Nat.zero_le _, hid_cons (Ex.new hD) hD, [], by simp; exact .nil, g2⟩, ?_⟩
  rintro m n Hm ⟨rfl, hm, eF, ds, hds, gm⟩
  by_cases hlt : m < xs.length
  · refine .inr ⟨W.goes m _ _ hlt eF gm.al, fun Hx => m + 1 ≤ xs.length ∧ Ex (hid S H1) (hid (D :: S) Hx) ∧ ∃ ds, All2 Pd (xs.take (m + 1)) ds ∧ Sg (D :: S) Bs Γ ((D, lisC ds) :: M) σ Hx, fun H' ⟨a, b, c⟩ => ⟨xs.length - (m + 1), by omega, rfl, a, b, c⟩, fun x H' y => ?_⟩
    have hget : xs[m]? = some xs[m] := by simp [hlt]
    obtain ⟨e2, en⟩ := W.yields m xs[m] (D :: S) Hm x H' hget eF gm.al y
    have g3 := gm.next e2
    have g4 := (g3.wipe vs).set (i := j) (by rw [wipeG_len]; exact blt hlj) (me xs[m]) en
    have gs : ∀ T : L2.St → Hp → Prop, T ((L2.wipe σ vs).set j (some x)) H' → gName j x (L2.wipe σ vs) H' T := fun _ q => q
    refine gs _ ⟨wipe_set hj, ttB_of b_nil g4.al fun H3 e4 => ?_⟩
    rw [if_pos rfl]
    refine teB_X (h xs[m] (List.getElem_mem hlt) (D :: S) (D, lisC ds) fun b hb => List.mem_cons_of_mem _ hb) (g4.next e4) fun v H4 g5 e5 ⟨d, pd, dv⟩ => ?_
    have g6 := (g3.next e4).reslot g5 e5
    obtain ⟨hS, _, _, o, ho, acc, rfl, da⟩ := g6.ce (D, lisC ds) List.mem_cons_self
    have hlen : acc.length = m := by rw [da.length, hds.len, List.length_take]; omega
    refine ⟨acc, ho, szlt (by omega), hlt, ?_, ds ++ [id d], ?_, g6.put (i := 0) rfl (lisC_mono _) ⟨acc ++ [v], rfl, da.append (.cons dv .nil)⟩⟩
    · rw [hid_upd hS]
      exact ((eF.trans (hid_ex e2)).trans (hid_ex e4)).trans e5
    · rw [take_succ hget]
      exact hds.app (.cons pd .nil)
  · have em : m = xs.length := by omega
    subst em
    rw [List.take_length] at hds
    obtain ⟨hS, _, _, o, ho, acc, rfl, da⟩ := gm.ce (D, lisC ds) List.mem_cons_self
    refine .inl ⟨W.stops _ _ eF gm.al, k _ _ ((gm.drop 0).wk (fun b hb => List.mem_cons_of_mem _ hb) (fun _ h => h) (LeG.refl Γ) (fun q hq => ⟨hq, (g.ce q hq).1⟩) g.nd) ?_ ⟨ds, hds, .lst (by rw [hid_out aD]; exact ho) (da.mono hid_tl)⟩⟩
    exact (hid_ex e1).trans (eF.trans hid_tl)
theorem e_lcG {xs : List α} {enc : α → RV} {own : List (Str × Nat)} {Pd : α → PyData → Prop} (hc : X.calm = true) (hN : X.N.Nodup) (hi : ∀ σ H, Sg S Bs Γ M σ H → PI X tg iter (tW S σ H xs enc)) (ok : BlkOk X.N X.env.scope scope own) (hg : Blk X scope fun Y => PG Y tg (gName j)) (hj : j ∈ own.map (·.2)) (hlj : Nat.blt j Γ.length = true) (me : ∀ a, Mono (enc a)) (hl : xs.length ≤ 100000)
    (h : ∀ a ∈ xs, ∀ S' C, (∀ b ∈ S, b ∈ S') → Blk X scope fun Y => PE Y elt (tG S' Bs ((wipeG Γ (own.map (·.2))).set j (some (enc a))) (C :: M) (C :: M) (exR (Pd a) id)))
    (hs : ∀ x, foldedSetIterable iter X.env x = pure x := by intro _; rfl) : PE X (.ListComp elt [⟨tg, iter, [], 0⟩] scope pos) (tG S Bs Γ M M (exR (All2 Pd xs) .list)) :=
  PE_imp (pe_lc hc hN (pi_wG hi) ok hg pts_ttB pe_teB hs) (lc_G hj hlj me hl h)
theorem gs_setLcG {xs : List α} {enc : α → RV} {own : List (Str × Nat)} {Pd : α → PyData → Prop} {i : Nat} {y : Str} {py spos : Pos} (g : Sg S Bs Γ M σ H) (hc : X.calm = true) (hN : X.N.Nodup) (hi : ∀ σ H, Sg S Bs Γ M σ H → PI X tg iter (tW S σ H xs enc)) (ok : BlkOk X.N X.env.scope scope own) (hg : Blk X scope fun Y => PG Y tg (gName j)) (hj : j ∈ own.map (·.2)) (hlj : Nat.blt j Γ.length = true) (me : ∀ a, Mono (enc a)) (hl : xs.length ≤ 100000)
    (h : ∀ a ∈ xs, ∀ S' C, (∀ b ∈ S, b ∈ S') → Blk X scope fun Y => PE Y elt (tG S' Bs ((wipeG Γ (own.map (·.2))).set j (some (enc a))) (C :: M) (C :: M) (exR (Pd a) id)))
    (k : ∀ ds, All2 Pd xs ds → ∀ σ' H', Sg S Bs (Γ.set i (some (isD (.list ds)))) M σ' H' → SW X D rest σ' H') (hy : X.N[i]? = some y := by rfl) (hli : Nat.blt i Γ.length = true := by rfl) (hyl : X.env.scope.names.lookup y = some .local := by rfl)
    (hsw : swapsWith (.ListComp elt [⟨tg, iter, [], 0⟩] scope pos) (some (.Name y py)) spos.line X.env = pure true := by exact sw_true rfl rfl rfl (by decide +kernel)) (hs : ∀ x, foldedSetIterable iter X.env x = pure x := by intro _; rfl) :
    SW X D (.Assign [.Name y py] (.ListComp elt [⟨tg, iter, [], 0⟩] scope pos) spos :: rest) σ H :=
  sw_cons (ps_setLc hc hN hy hyl hsw (pi_wG hi) ok hg pts_ttB pe_teB hs) (lc_G (Pd := Pd) hj hlj me hl h σ H _ ⟨g, fun v H1 g1 e1 ⟨ds, hds, r⟩ => k ds hds _ _ (g1.set (blt hli) (isD_mono _) r)⟩)
/-- for x in range(e): the turns' number only known to be small -/
theorem gs_forRg {jn : Nat} {nm : Int} {body : List Stmt} {p1 : Pos} (P : Nat → List Addr → Ga → Ce → Prop) (g : Sg S Bs Γ M σ H) (hp : PassesOwn (model X.prog X.w) X.A X.env X.xe) (hc : X.calm = true) (hm : X.mg "range" = none) (he : PE X e (tG S Bs Γ M M1 (rgR 0 nm))) (hnm : nm ≤ 100000) (hg : PG X tg (gName jn)) (h0 : P 0 S Γ M1)
    (h : ∀ n : Nat, (n : Int) + 1 < nm → ∀ L Γ' M', (∀ a ∈ S, a ∈ L) → P n L Γ' M' → ∀ σ' H' v B, Sg L (B :: Bs) Γ' M' σ' H' → v = .int n →
        Stored (gName jn) v σ' H' fun σ2 => SW X { D with nx := fun σ3 H3 => ∃ L' Γ2 M2, (∀ a ∈ S, a ∈ L') ∧ P (n + 1) L' Γ2 M2 ∧ Sg L' (B :: Bs) Γ2 M2 σ3 H3, ct := fun σ3 H3 => ∃ L' Γ2 M2, (∀ a ∈ S, a ∈ L') ∧ P (n + 1) L' Γ2 M2 ∧ Sg L' (B :: Bs) Γ2 M2 σ3 H3, bk := fun σ3 H3 => SW X D rest σ3 H3 } body σ2 H')
    (hd : ∀ n : Nat, (n : Int) < nm → ∀ L Γ' M', (∀ a ∈ S, a ∈ L) → P n L Γ' M' → ∀ σ' H', Sg L Bs Γ' M' σ' H' → SW X D rest σ' H') (hs : ∀ x, foldedSetIterable (.Call (.Name "range" p) [e] [] p1) X.env x = pure x := by intro _; rfl) (hgl : Gl X "range" := by rfl)
    (hse : starEach [e] X.env = [(false, eval e X.env)] := by rfl) : SW X D (.For tg (.Call (.Name "range" p) [e] [] p1) body [] pos :: rest) σ H := by
  refine sw_cons (ps_for hp hc (pi_range1 hgl hm (ea_cons (exR_mono _ _) he ea_nil (by rw [hse]; rfl)) hse) hg pss_SW hs) ⟨g, fun vs H1 g1 e1 ra => ?_⟩
  obtain ⟨v, ws, rfl, ⟨n, hn, dv⟩, hw⟩ := ra
  obtain rfl : ws = [] := hw
  have hn' : 0 ≤ n ∧ n < nm := hn
  refine ⟨n, by rw [dv.intI], by omega, by omega, ?_⟩
  refine ⟨fun i m σ' H' => m = n.toNat - i ∧ i ≤ n.toNat ∧ ∃ L Γ' M', (∀ a ∈ S, a ∈ L) ∧ P i L Γ' M' ∧ Sg L (hid S H1 :: Bs) Γ' M' σ' H', ⟨n.toNat, by simp, Nat.zero_le _, S, Γ, M1, fun _ h => h, h0, g1.base⟩, ?_⟩
  rintro i m σ' H' ⟨rfl, hi, L, Γ', M', hL, pv, gz⟩
  by_cases hlt : i < n.toNat
  · refine .inr ⟨hlt, fun σ3 H3 => ∃ L' Γ2 M2, (∀ a ∈ S, a ∈ L') ∧ P (i + 1) L' Γ2 M2 ∧ Sg L' (hid S H1 :: Bs) Γ2 M2 σ3 H3, fun σ3 H3 q => ⟨n.toNat - (i + 1), by omega, rfl, hlt, q⟩, fun x H2 y => ?_⟩
    obtain ⟨y1, y2⟩ := y
    subst y1
    obtain ⟨hn1, hn2⟩ : 0 ≤ n ∧ n < nm := hn
    obtain ⟨σ2, gs, q⟩ := (h i (by omega) L Γ' M' hL pv σ' H2 x _ gz (by rw [y2]; congr 1; omega)).ex
    exact gs _ q
  · have ei : i = n.toNat := by omega
    subst ei
    exact .inl ⟨Nat.le_refl _, hd _ (by omega) L Γ' M' hL pv σ' H' gz.unbase⟩
end
end N34

set_option Elab.async false
set_option linter.all false
set_option maxRecDepth 100000
set_option maxHeartbeats 1000000
/-! draws -/
namespace N34
open PySem PySem.Spec PyProof.Rows L2
theorem and_eq {a b c d : Bool} (h1 : a = c) (h2 : b = d) : (a && b) = (c && d) := by rw [h1, h2]
theorem erase_perm {ζ : Type} : ∀ {l : List ζ} {m : Nat} {z : ζ}, l[m]? = some z → (z :: l.eraseIdx m).Perm l
  | [], m, z, h => by simp at h
  | a :: l, 0, z, h => by simp at h; subst h; exact .refl _
  | a :: l, m + 1, z, h => by
    have := erase_perm (l := l) (m := m) (z := z) (by simpa using h)
    exact .trans (.swap _ _ _) (.cons a this)
theorem erase_map {ζ υ : Type} (f : ζ → υ) : ∀ (l : List ζ) (m : Nat), (l.map f).eraseIdx m = (l.eraseIdx m).map f
  | [], _ => rfl
  | _ :: _, 0 => rfl
  | a :: l, m + 1 => by show f a :: (l.map f).eraseIdx m = _; rw [erase_map f l m]; rfl
theorem map_dropLast (ns : List Int) : (ns.map PyData.int).dropLast = ns.dropLast.map .int := by
  rw [List.dropLast_eq_take, List.dropLast_eq_take, List.map_take, List.length_map]
theorem get_last {ns : List Int} (h : ns ≠ []) : (ns.map PyData.int)[ns.length - 1]? = some (.int (lastI ns)) := by
  have := atI_last h
  unfold atI at this
  have hl : 0 < ns.length := by cases ns; exact absurd rfl h; simp
  have e : ixN (ns.map PyData.int).length (-1) = some (ns.length - 1) := by
    unfold ixN
    rw [if_neg (by decide), List.length_map, if_pos (by omega)]
    congr 1; omega
  rw [e] at this
  exact this
theorem lastI_mem {ns : List Int} (h : ns ≠ []) : lastI ns ∈ ns := by
  have := List.mem_of_getElem? (get_last h)
  obtain ⟨x, hx, e⟩ := List.mem_map.mp this
  cases e; exact hx
local macro_rules | `(tactic| walk_at "sz") => `(tactic| first | omega | (simp only [List.length_zip, List.length_map, List.length_range, List.length_zipIdx]; omega) | exact ⟨by omega, by omega⟩)
local macro_rules | `(tactic| walk_at "leg") => `(tactic| repeat (first | exact LeG.nil | apply LeG.keep | apply LeG.drop))
local macro_rules | `(tactic| walk_at "sd") => `(tactic| first | trivial | assumption | omega)
local macro_rules | `(tactic| walk_at "mul") => `(tactic| first | (exact Or.inl ⟨by omega, by omega⟩) | (exact Or.inr ⟨by omega, by omega⟩))
local macro_rules | `(tactic| walk_at "div") => `(tactic| exact ⟨by omega, by omega⟩)
local macro_rules | `(tactic| walk_at "pos") => `(tactic| omega)
section
variable {P : Program} {w : World} {K : PySem.W.Frag} {mg : Str → Option Value} {base : Heap} {C : Addr}
abbrev sAny := spE fun vs F M M' R => ∃ dl il bd, AllR [isR dl, isD (.int bd)] vs F ∧ (1 ≤ bd ∧ bd < 2 ^ 30) ∧ M = dM dl il ∧ M' = dM dl il ∧ ∀ r v F', 0 ≤ r → r < bd → Dt F' v (.int r) → R v F'
/-- the deal, told -/
abbrev dE (dl il : Addr) (b : Int) (ns : List Int) : Ce := [(dl, eqC (.lst [.ref il, .int b])), (il, lisC (ns.map .int))]
theorem dE_close {S : List Addr} {Bs : List Hp} {Γ : Ga} {σ : L2.St} {H : Hp} {dl il : Addr} {b : Int} {ns : List Int} (g : Sg S Bs Γ (dE dl il b ns) σ H) (hb : 0 ≤ b ∧ b < 2147483647) (hn : ∀ x ∈ ns, 0 ≤ x) (hl : ns.length ≤ 48) : Sg S Bs Γ (dM dl il) σ H :=
  g.cells (fun q hq => by
    rcases List.mem_cons.mp hq with rfl | hq
    · exact ⟨_, List.mem_cons_self, rfl, outC_mono il, fun o F h => ⟨b, hb, h⟩⟩
    · obtain rfl := List.mem_singleton.mp hq
      exact ⟨_, List.mem_cons_of_mem _ (List.mem_singleton.mpr rfl), rfl, inC_mono, fun o F ⟨xs, h, d⟩ => ⟨ns, hn, hl, by rw [h, d.ints]⟩⟩) g.nd
-- def _law_any _law_deal:X _law_bound:i _law_rest:i
theorem scLawAny : FnScope ["_law_deal", "_law_bound", "_law_rest"] ["_law_deal", "_law_bound"] (defScope sLawAny) := ⟨rfl, rfl, rfl, by decide +kernel, rfl, by decide +kernel, by decide +kernel⟩
theorem ok_lawAny (B : Bl mg) (F : FnAt K mg "_law_any" sLawAny) : Cl P w K mg base "_law_any" 1 ["_law_deal", "_law_bound"] sAny := by
  refine cl_E F scLawAny (fun vs F M M' R ⟨dl, il, bd, h, _⟩ => h.length) (fun _ _ _ _ _ _ us hl => match us, hl with | [_, _], _ => rfl) fun f cdv A outer s H vs S M M' R E hr al ce ⟨dl, il, bd, ha, ⟨hb1, hb2⟩, eM, eM', hR⟩ => ?_
  subst eM eM'
  have g := Sg.startC (M := dM dl il) (Rs := [isR dl, isD (.int bd)]) (N := ["_law_deal", "_law_bound", "_law_rest"]) al ⟨isR_mono _, isD_mono _, trivial⟩ ha (by rw [ha.length]; exact Nat.le_of_ble_eq_true rfl) ce
  obtain ⟨o1, ⟨b, hbb, rfl⟩, _, g⟩ := g.opn (j := 0) rfl
  obtain ⟨o2, ⟨ns, hns, hl, rfl⟩, _, g⟩ := g.opn (j := 1) rfl
  have g1 := g.cells (M' := dE dl il b ns) (fun q hq => by
    rcases List.mem_cons.mp hq with rfl | hq
    · exact ⟨_, List.mem_cons_self, rfl, eqC_mono .lst, fun o F h => h⟩
    · obtain rfl := List.mem_singleton.mp hq
      exact ⟨_, List.mem_cons_of_mem _ (List.mem_singleton.mpr rfl), rfl, lisC_mono _, fun o F h => ⟨_, h, .of_ints ns⟩⟩) g.nd
  refine sw_while PassesOwn.never (fun n σ' H' => ∃ ns : List Int, (∀ x ∈ ns, 0 ≤ x) ∧ ns.length ≤ 48 ∧ n = ns.length ∧ Sg S [hid ((dM dl il).map (·.1)) H] [some (isR dl), some (isD (.int bd)), none] (dE dl il b ns) σ' H') (m := ns.length) ⟨ns, hns, hl, rfl, g1⟩ ?_
  rintro n σ1 H1 ⟨ns, hns, hl, rfl, g1⟩
  refine ⟨S, _, QT.pt (q_and (t_neNilC g1 (hu4 hr) (j := 1) rfl (g_ixE g1 (j := 0) rfl (g_v g1 (pv 0) rfl) r_int rfl fun _ => rfl) (shp_lint ns)) fun h => q_one_and (t_eqI (g_ixC g1 (j := 1) rfl (g_ixE g1 (j := 0) rfl (g_v g1 (pv 0) rfl) r_int rfl fun _ => rfl) (r_neg r_int) (atI_last (x := ns) (fun e => by rw [e] at h; exact nomatch h))) r_int)), g1.al, fun hb H2 e2 => ?_, fun hb H2 e2 => ?_⟩
  · have g2 := g1.next e2
    have hne : ns ≠ [] := fun e => by rw [e] at hb; exact nomatch hb
    have hpos : 0 < ns.length := List.length_pos_iff.mpr hne
    refine gs_exprG g2 (e_pop (j := 1) (n := ns.length - 1) (fun _ _ gg => g_ixE gg (j := 0) rfl (g_v gg (pv 0) rfl) r_int rfl fun _ => rfl) rfl (by rw [List.length_map]; omega) (get_last hne)) fun H3 g3 => sw_nil ⟨ns.length - 1, by omega, ns.dropLast, fun x hx => hns x ((List.dropLast_sublist ns).subset hx), by rw [List.length_dropLast]; omega, by rw [List.length_dropLast], ?_⟩
    rw [map_dropLast] at g3
    exact g3
  · have g2 := g1.next e2
    refine gs_if1 g2 (t_neNilC g2 (hu4 hr) (j := 1) rfl (g_ixE g2 (j := 0) rfl (g_v g2 (pv 0) rfl) r_int rfl fun _ => rfl) (shp_lint ns)) (fun h3 H3 g3 => ?_) (fun h3 H3 g3 => ?_)
    · have hne : ns ≠ [] := fun e => by rw [e] at h3; exact nomatch h3
      have hpos : 0 < ns.length := List.length_pos_iff.mpr hne
      have hlast := hns _ (lastI_mem hne)
      refine gs_setG (i := 2) g3 scLawAny.nd (e_wk (e_int (P := fun _ : Unit => True) (F := fun _ => lastI ns) B.int (e_wk (e_pop (j := 1) (n := ns.length - 1) (fun _ _ gg => g_ixE gg (j := 0) rfl (g_v gg (pv 0) rfl) r_int rfl fun _ => rfl) rfl (by rw [List.length_map]; omega) (get_last hne)) fun v F h => ⟨(), trivial, h⟩)) (R' := isD (.int (lastI ns))) fun v F ⟨_, _, h⟩ => h) (isD_mono _) fun σ4 H4 g4 => ?_
      rw [map_dropLast] at g4
      refine gs_exprG g4 (e_app (j := 1) (d := .int (lastI ns / bd)) (e_of fun _ _ gg => g_ixE gg (j := 0) rfl (g_v gg (pv 0) rfl) r_int rfl fun _ => rfl) rfl (e_of fun _ _ gg => (r_fdiv (g_v gg (pv 2) rfl) (g_v gg (pv 1) rfl) (by walk_at "div"))) rfl (by rw [List.length_map, List.length_dropLast]; omega)) fun H5 g5 => ?_
      rw [show ns.dropLast.map PyData.int ++ [.int (lastI ns / bd)] = (ns.dropLast ++ [lastI ns / bd]).map PyData.int by rw [List.map_append]; rfl] at g5
      have g7 := dE_close (ns := ns.dropLast ++ [lastI ns / bd]) g5 hbb (fun x hx => by
        rcases List.mem_append.mp hx with z | z
        · exact hns x ((List.dropLast_sublist ns).subset z)
        · rw [List.mem_singleton.mp z]; exact Int.ediv_nonneg hlast (by omega)) (by rw [List.length_append, List.length_dropLast]; simp; omega)
      exact gs_ret g7 (r_mod (g_v g7 (pv 2) rfl) (g_v g7 (pv 1) rfl) (by walk_at "pos")) fun v H' g' r => fin_E g' (hR _ _ _ (Int.emod_nonneg _ (by omega)) (Int.emod_lt_of_pos _ (by omega)) r)
    · refine gs_lputE (j := 0) (i := (b * 40693 + 71) % 2147483647) (k := 1) (n := 1) g3 (r_mod (r_intI B.int (r_add (r_mul (g_ixE g3 (j := 0) rfl (g_v g3 (pv 0) rfl) r_int rfl fun _ => .int b) r_int (by walk_at "mul")) r_int)) r_int (by decide)) (fun _ gg => g_v gg (pv 0) rfl) (fun _ gg => r_int) rfl rfl fun H4 g4 => ?_
      have hb' : 0 ≤ (b * 40693 + 71) % 2147483647 ∧ (b * 40693 + 71) % 2147483647 < 2147483647 := ⟨Int.emod_nonneg _ (by decide), Int.emod_lt_of_pos _ (by decide)⟩
      generalize (b * 40693 + 71) % 2147483647 = b' at g4 hb'
      refine gs_ret g4 (r_mod (r_intI B.int (r_fdiv (g_ixE g4 (j := 0) rfl (g_v g4 (pv 0) rfl) r_int rfl fun _ => .int b') r_int ⟨by decide, by decide⟩)) (g_v g4 (pv 1) rfl) (by omega)) fun v H' g' r => ?_
      exact fin_E (dE_close (b := b') g' hb' hns hl) (hR _ _ _ (Int.emod_nonneg _ (by omega)) (Int.emod_lt_of_pos _ (by omega)) r)
section
variable {X : Cx} {S : List Addr} {Bs : List Hp} {Γ : Ga} {M M2 : Ce} {a e : Expr} {p pos : Pos} {dl il : Addr} {bd : Int} {ds : List PyData}
theorem e_any (C : Cl X.prog X.w X.K X.mg X.base "_law_any" 1 ["_law_deal", "_law_bound"] sAny) (hr : Room 1 X.A) (hb : 1 ≤ bd ∧ bd < 2 ^ 30) (hM : M.Perm (dM dl il ++ M2)) (ha : ∀ σ H, Sg S Bs Γ M σ H → PE X a (tR S σ H (isR dl))) (he : ∀ σ H, Sg S Bs Γ M σ H → PE X e (tR S σ H (isD (.int bd))))
    (hg : Gl X "_law_any" := by rfl) (h1 : starEach [a, e] X.env = (false, eval a X.env) :: starEach [e] X.env := by rfl) (h2 : starEach [e] X.env = (false, eval e X.env) :: starEach [] X.env := by rfl) (hpl : (backTo pos (starEach [e] X.env)).any (·.1) = false := by rfl) :
    PE X (.Call (.Name "_law_any" p) [a, e] [] pos) (tG S Bs Γ M M (rgR 0 bd)) :=
  e_perm (e_callE (M1 := dM dl il) (M1' := dM dl il) (M2 := M2) C hr (ea_of fun σ H g => ra_cons (isR_mono dl) (ha σ H (g.perm hM.symm)) (ra_D (he σ H (g.perm hM.symm)) ra_nil h2) h1) (fun vs F h => ⟨dl, il, bd, h, hb, rfl, rfl, fun r v F' h0 h1 d => ⟨r, ⟨h0, h1⟩, d⟩⟩) rfl hg (by decide) h1 hpl) hM hM.symm
end
abbrev sOf := spE fun vs F M M' R => ∃ dl il ds, AllR [isR dl, isD (.list ds)] vs F ∧ (1 ≤ ds.length ∧ ds.length < 2 ^ 20) ∧ M = dM dl il ∧ M' = dM dl il ∧ ∀ d ∈ ds, ∀ v F', Dt F' v d → R v F'
-- def _law_of _law_deal:X _law_some:lX
theorem scLawOf : FnScope ["_law_deal", "_law_some"] ["_law_deal", "_law_some"] (defScope sLawOf) := ⟨rfl, rfl, rfl, by decide +kernel, rfl, by decide +kernel, by decide +kernel⟩
theorem ok_lawOf (B : Bl mg) (F : FnAt K mg "_law_of" sLawOf) (c_any : Cl P w K mg base "_law_any" 1 ["_law_deal", "_law_bound"] sAny) : Cl P w K mg base "_law_of" 2 ["_law_deal", "_law_some"] sOf := by
  refine cl_E F scLawOf (fun vs F M M' R ⟨dl, il, ds, h, _⟩ => h.length) (fun _ _ _ _ _ _ us hl => match us, hl with | [_, _], _ => rfl) fun f cdv A outer s H vs S M M' R E hr al ce ⟨dl, il, ds, ha, hb, eM, eM', hR⟩ => ?_
  subst eM eM'
  have g := Sg.startC (M := dM dl il) (Rs := [isR dl, isD (.list ds)]) (N := ["_law_deal", "_law_some"]) al ⟨isR_mono _, isD_mono _, trivial⟩ ha (by rw [ha.length]; exact Nat.le_of_ble_eq_true rfl) ce
  exact gs_retG g (e_ixL (P := fun d => d ∈ ds) (n := ds.length) (e_of fun _ _ gg => g_v gg (pv 1) rfl) (e_any c_any hr (M2 := []) ⟨by omega, by omega⟩ (.refl _) (fun _ _ gg => g_v gg (pv 0) rfl) (fun _ _ gg => r_lenL B.len (g_v gg (pv 1) rfl))) rfl fun d h => h) fun v H' g' ⟨d, hd, r⟩ => fin_E g' (hR d hd _ _ r)
abbrev sMixed := spE fun vs F M M' R => ∃ dl il ns, AllR [isR dl, isD (lint ns)] vs F ∧ ns.length ≤ 1000 ∧ M = dM dl il ∧ M' = dM dl il ∧ ∀ ms : List Int, ms.Perm ns → ∀ v F', Dt F' v (lint ms) → R v F'
-- def _law_mixed _law_deal:X _law_some:li
theorem scLawMixed : FnScope ["_law_deal", "_law_some", "_law_left", "_law_found"] ["_law_deal", "_law_some"] (defScope sLawMixed) := ⟨rfl, rfl, rfl, by decide +kernel, rfl, by decide +kernel, by decide +kernel⟩
theorem ok_lawMixed (B : Bl mg) (F : FnAt K mg "_law_mixed" sLawMixed) (c_any : Cl P w K mg base "_law_any" 1 ["_law_deal", "_law_bound"] sAny) : Cl P w K mg base "_law_mixed" 2 ["_law_deal", "_law_some"] sMixed := by
  refine cl_E F scLawMixed (fun vs F M M' R ⟨dl, il, ds, h, _⟩ => h.length) (fun _ _ _ _ _ _ us hl => match us, hl with | [_, _], _ => rfl) fun f cdv A outer s H vs S M M' R E hr al ce ⟨dl, il, ns, ha, hb, eM, eM', hR⟩ => ?_
  subst eM eM'
  have g := Sg.startC (M := dM dl il) (Rs := [isR dl, isD (lint ns)]) (N := ["_law_deal", "_law_some", "_law_left", "_law_found"]) al ⟨isR_mono _, isD_mono _, trivial⟩ ha (by rw [ha.length]; exact Nat.le_of_ble_eq_true rfl) ce
  refine sx_par2 (i := 2) (j := 3) rfl scLawMixed.nd (se_newLs g B.list (g_v g (pv 1) rfl) fun l H1 hl g1 => se_newL (ds := []) g1 ra_nil fun fo H2 hfo g2 => ?_)
  have g3 := (g2.set (i := 2) (blt rfl) (isR_mono l) rfl).set (i := 3) (blt rfl) (isR_mono fo) rfl
  refine sw_while PassesOwn.never (fun n σ' H' => ∃ found left : List Int, (found ++ left).Perm ns ∧ n = left.length ∧ Sg (fo :: l :: S) [hid ((dM dl il).map (·.1)) H] [some (isR dl), some (isD (lint ns)), some (isR l), some (isR fo)] ([(fo, lisC (found.map .int)), (l, lisC (left.map .int))] ++ dM dl il) σ' H') (m := ns.length) ⟨[], ns, .refl _, rfl, g3⟩ ?_
  rintro n σ4 H4 ⟨found, left, hp, rfl, g4⟩
  have hlen := hp.length_eq
  rw [List.length_append] at hlen
  refine ⟨_, _, t_neNilC g4 (hu4 hr) (j := 1) rfl (g_v g4 (pv 2) rfl) (shp_lint left), g4.al, fun h H5 e5 => ?_, fun h H5 e5 => ?_⟩
  · have g5 := g4.next e5
    have hne : 0 < left.length := by
      cases left with
      | nil => exact nomatch h
      | cons a l => simp
    refine sx_expr (se_app g5 (g_v g5 (pv 3) rfl) (j := 0) rfl fun H6 g6 => se_popAt (j := 1) g6 (fun _ _ gg => g_v gg (pv 2) rfl) (e_any c_any hr (M2 := [(fo, lisC (found.map .int)), (l, lisC (left.map .int))]) (bd := left.length) ⟨by omega, by omega⟩ List.perm_append_comm (fun _ _ gg => g_v gg (pv 0) rfl) (fun _ _ gg => r_eq (g_lenC gg (j := 1) rfl B.len (g_v gg (pv 2) rfl)) (by rw [List.length_map]))) rfl rfl (by rw [List.length_map]) (by rw [List.length_map]; omega) fun m d hd v H7 g7 dv => ⟨_, d, found.map .int, g7, rfl, dv, by rw [List.length_map]; omega, fun H8 g8 => sw_nil ?_⟩)
    rw [List.getElem?_map] at hd
    obtain ⟨z, hz, rfl⟩ := Option.map_eq_some_iff.mp hd
    obtain ⟨hm, ez⟩ := List.getElem?_eq_some_iff.mp hz
    refine ⟨left.length - 1, by omega, found ++ [z], left.eraseIdx m, ?_, by rw [List.length_eraseIdx_of_lt hm], ?_⟩
    · rw [List.append_assoc]
      refine .trans (.append_left _ ?_) hp
      exact erase_perm hz
    · rw [erase_map, show found.map PyData.int ++ [.int z] = (found ++ [z]).map PyData.int by rw [List.map_append]; rfl] at g8
      exact g8
  · have g5 := g4.next e5
    have hne : left = [] := by
      cases left with
      | nil => rfl
      | cons a l => exact nomatch h
    subst hne
    rw [List.append_nil] at hp
    have g6 := (g5.drop 1).freeze (S := S) (i := 3) (j := 0) (fun b hb => List.mem_cons_of_mem _ (List.mem_cons_of_mem _ hb)) (fun z => hfo (List.mem_cons_of_mem _ z)) rfl rfl (fun q hq => (g.ce q hq).1)
    exact gs_ret g6 (g_v g6 (pv 3) rfl) fun v H' g' r => fin_E g' (hR found hp _ _ r)
end
end N34

set_option Elab.async false
set_option linter.all false
set_option maxRecDepth 100000
set_option maxHeartbeats 1000000
/-! drawn names -/
namespace N34
open PySem PySem.Spec PyProof.Rows L2
@[irreducible] def zrW (nm : List (List Int)) (x : List Int) (at_ : Nat) : Int := (x.zipIdx.map fun q => q.1 * vAt (bAt nm (at_ : Nat)) (q.2 : Nat)).sum
@[irreducible] def zrOk (nm : List (List Int)) (x : List Int) (q : Int × Nat) : Bool := !(!decide (zrW nm x q.2 = 0) && (decide (q.1 = 0) || !decide (zrW nm x q.2 % q.1 = 0)))
@[irreducible] def zeroM (cl : List Int) (nm : List (List Int)) (x : List Int) : Bool := cl.zipIdx.all (zrOk nm x)
theorem atI_l {B : List (List Int)} {i : Int} (h : 0 ≤ i ∧ i < B.length) : atI (B.map lint) i = some (lint (bAt B i)) := by
  refine atI_map h _ ?_
  unfold bAt
  rw [List.getElem?_eq_getElem (by omega)]; rfl
theorem gs_setX {X : Cx} {S : List Addr} {Bs : List Hp} {Γ : Ga} {M M' : Ce} {σ : L2.St} {H : Hp} {D : Ends} {rest : List Stmt} {e : Expr} {pos : Pos} {τ : Type} {P : τ → Prop} {F : τ → PyData} {i : Nat} {x : Str} {p' : Pos} (g : Sg S Bs Γ M σ H) (hN : X.N.Nodup) (he : PE X e (tG S Bs Γ M M' (exR P F))) (k : ∀ t, P t → ∀ σ' H', Sg S Bs (Γ.set i (some (isD (F t)))) M' σ' H' → SW X D rest σ' H') (hi : X.N[i]? = some x := by rfl) (hl : Nat.blt i Γ.length = true := by rfl)
    (hx : Loc X.env.scope x := by first | exact Or.inl rfl | exact Or.inr rfl) (hs : swapsWith e (some (.Name x p')) pos.line X.env = pure false := by rfl) (hf : X.fn x = true ∨ X.env.scope.names.lookup x = some .local := by first | exact .inl rfl | exact .inr rfl | assumption) : SW X D (.Assign [.Name x p'] e pos :: rest) σ H :=
  sw_cons (ps_set hN hi hx he hs hf) ⟨g, fun v H1 g1 e1 ⟨t, pt, r⟩ => k t pt _ _ (g1.set (blt hl) (isD_mono _) r)⟩
local macro_rules | `(tactic| walk_at "sz") => `(tactic| first | omega | (simp only [List.length_zip, List.length_map, List.length_range, List.length_zipIdx]; omega) | exact ⟨by omega, by omega⟩)
local macro_rules | `(tactic| walk_at "leg") => `(tactic| repeat (first | exact LeG.nil | apply LeG.keep | apply LeG.drop))
local macro_rules | `(tactic| walk_at "sd") => `(tactic| first | trivial | assumption | omega)
section
variable {X : Cx} {S : List Addr} {Bs : List Hp} {Γ : Ga} {M M2 : Ce} {a e : Expr} {p pos : Pos} {dl il : Addr} {bd : Int} {ds : List PyData}
theorem e_of2 {Pd : PyData → Prop} (C : Cl X.prog X.w X.K X.mg X.base "_law_of" 2 ["_law_deal", "_law_some"] sOf) (hr : Room 2 X.A) (hb : 1 ≤ ds.length ∧ ds.length < 2 ^ 20) (hM : M.Perm (dM dl il ++ M2)) (ha : ∀ σ H, Sg S Bs Γ M σ H → PE X a (tR S σ H (isR dl))) (he : ∀ σ H, Sg S Bs Γ M σ H → PE X e (tR S σ H (isD (.list ds)))) (hd : ∀ d ∈ ds, Pd d)
    (hg : Gl X "_law_of" := by rfl) (h1 : starEach [a, e] X.env = (false, eval a X.env) :: starEach [e] X.env := by rfl) (h2 : starEach [e] X.env = (false, eval e X.env) :: starEach [] X.env := by rfl) (hpl : (backTo pos (starEach [e] X.env)).any (·.1) = false := by rfl) :
    PE X (.Call (.Name "_law_of" p) [a, e] [] pos) (tG S Bs Γ M M (exR Pd id)) :=
  e_perm (e_callE (M1 := dM dl il) (M1' := dM dl il) (M2 := M2) C hr (ea_of fun σ H g => ra_cons (isR_mono dl) (ha σ H (g.perm hM.symm)) (ra_D (he σ H (g.perm hM.symm)) ra_nil h2) h1) (fun vs F h => ⟨dl, il, ds, h, hb, rfl, rfl, fun d hd' v F' r => ⟨d, hd d hd', r⟩⟩) rfl hg (by decide) h1 hpl) hM hM.symm
end
section
variable {P : Program} {w : World} {K : PySem.W.Frag} {mg : Str → Option Value} {base : Heap} {C : Addr}
structure ZrOk (p : List Int × List (List Int) × List Int) : Prop where
  l1 : p.2.1.length = p.1.length
  l2 : ∀ r ∈ p.2.1, r.length = p.2.2.length
  l3 : p.2.2.length ≤ 4
  l4 : p.1.length ≤ 10
  cl : ∀ c ∈ p.1, 0 ≤ c ∧ c < 100
  xs : ∀ x ∈ p.2.2, 0 ≤ x ∧ x < 100
abbrev sZr := spF (spD (fun p : List Int × List (List Int) × List Int => [isD (lint p.1), isD (.list (p.2.1.map lint)), isD (vec p.2.2)]) ZrOk fun p => .bool (zeroM p.1 p.2.1 p.2.2))
theorem CrOk.lt100 {x : Int} (h : 0 ≤ x ∧ x < 100) (j : Int) : CMul x j := .inl ⟨by omega, by omega⟩
-- def _law_zero _law_clocks:li _law_names:lli _law_crowd:v
theorem scLawZero : FnScope ["_law_clocks", "_law_names", "_law_crowd", "_law_at", "_law_clock", "_law_whole", "_law_kind", "_law_x"] ["_law_clocks", "_law_names", "_law_crowd"] (defScope sLawZero) := ⟨rfl, rfl, rfl, by decide +kernel, rfl, by decide +kernel, by decide +kernel⟩
theorem ok_lawZero (B : Bl mg) (F : FnAt K mg "_law_zero" sLawZero) : Cl P w K mg base "_law_zero" 1 ["_law_clocks", "_law_names", "_law_crowd"] sZr := by
  refine cl_D F scLawZero (fun p => ⟨isD_mono _, isD_mono _, isD_mono _, trivial⟩) (fun _ => rfl) (by decide) (fun _ _ _ _ _ _ us hl => match us, hl with | [_, _, _], _ => rfl) (fun f cdv A outer s H σ S R E p hr g hs hR => ?_)
  obtain ⟨l1, l2, l3, l4, hcl, hxs⟩ := hs
  refine gs_forZ (ζ := Unit) g PassesOwn.never rfl (w_enumL B.enumerate (g_v g (pv 0) rfl)) (pg_tup rfl (pgs_cons (pg_name (i := 3) scLawZero.nd rfl (by first | exact Or.inl rfl | exact Or.inr rfl)) (pgs_cons (pg_name (i := 4) scLawZero.nd rfl (by first | exact Or.inl rfl | exact Or.inr rfl)) pgs_nil))) (fun _ _ => [some (isD (lint p.1)), some (isD (.list (p.2.1.map lint))), some (isD (vec p.2.2)), none, none, none, none, none]) (fun _ _ => []) (fun pre _ => ∀ q ∈ pre, zrOk p.2.1 p.2.2 q = true) (fun H' g' => ⟨(), fun _ h => (nomatch h), g'.le (by walk_at "leg")⟩) (fun B' pre q post hq z hz σ2 H2 v g2 hv => ?_) (fun z hz σ2 H2 g2 => ?_)
  · refine gst_pair g2 rfl rfl (isD_mono _) (isD_mono _) hv fun σ3 g3 => ?_
    have hqm : q ∈ p.1.zipIdx := by rw [hq]; simp
    have hq1 := hcl _ (zipIdx_mem hqm).1
    have hq2 := zipIdx_lt hqm
    have hrow : (bAt p.2.1 (q.2 : Nat)).length = p.2.2.length := l2 _ (bAt_mem ⟨by omega, by omega⟩)




    refine gs_set g3 (i := 5) scLawZero.nd (r_eq (d' := .int (zrW p.2.1 p.2.2 q.2)) (r_sum rfl B.sum (r_lcA (own := [("_law_kind", 6), ("_law_x", 7)]) .int rfl scLawZero.nd (w_enumT B.enumerate (g_v g3 (pv 2) rfl)) (blkOk_by (N := ["_law_clocks", "_law_names", "_law_crowd", "_law_at", "_law_clock", "_law_whole", "_law_kind", "_law_x"]) (sc := defScope sLawZero) (by decide +kernel)) (fun _ _ _ _ _ => pg_tup rfl (pgs_cons (pg_name (i := 6) scLawZero.nd rfl (by first | exact Or.inl rfl | exact Or.inr rfl)) (pgs_cons (pg_name (i := 7) scLawZero.nd rfl (by first | exact Or.inl rfl | exact Or.inr rfl)) pgs_nil))) (by first | (rw [List.length_zipIdx]; omega) | omega) (it_pair g3 (i := 6) (j := 7) (by decide) (by decide) rfl rfl (fun _ => isD_mono _) (fun _ => isD_mono _) (fun a1 ha1 _ _ _ g1 => ⟨b_nil, fun hp1 _ _ _ _ _ => (r_mul (g_v g1 (pv 7) rfl) (r_ixL (r_ixL (g_v g1 (pv 1) rfl) (g_v g1 (pv 3) rfl) (by first | exact atI_l ⟨by omega, by omega⟩ | exact atI_v (by have := zipIdx_lt ‹_ ∈ List.zipIdx (_ : List Int)›; omega))) (g_v g1 (pv 6) rfl) (by first | exact atI_l ⟨by omega, by omega⟩ | exact atI_v (by have := zipIdx_lt ‹_ ∈ List.zipIdx (_ : List Int)›; omega))) (by exact CrOk.lt100 (hxs _ (zipIdx_mem ‹_ ∈ List.zipIdx (_ : List Int)›).1) _))⟩)))) (by unfold zrW; rfl)) (isD_mono _) fun σ4 H4 g4 => ?_




    refine gs_if1 g4 (QT.pt (q_and (t_neI (g_v g4 (pv 5) rfl) r_int) (fun _ => (q_one_and (QT.pt (q_or (t_eqI (g_v g4 (pv 4) rfl) r_int) (fun _ => (q_one_or (t_neI (r_mod (r_intI B.int (g_v g4 (pv 5) rfl)) (g_v g4 (pv 4) rfl) (by have := of_decide_eq_false ‹decide (_ = (0 : Int)) = false›; omega)) r_int))))))))) (fun hb H5 g5 => ?_) (fun hb H5 g5 => ?_)
    · refine gs_ret g5 (r_eq (r_bl (b := false)) ?_) fun v H' g' r => fin_D g'.unbase (fun _ h => h) r hR
      have h0 : zrOk p.2.1 p.2.2 q = false := by unfold zrOk; rw [hb]; rfl
      have : zeroM p.1 p.2.1 p.2.2 = false := by
        unfold zeroM
        rw [← Bool.not_eq_true, List.all_eq_true]
        intro h
        rw [h q hqm] at h0; cases h0
      rw [this]
    · refine sw_nil ⟨(), fun y hy => ?_, g5.le (by walk_at "leg")⟩
      rcases List.mem_append.mp hy with z | z
      · exact hz y z
      · rw [List.mem_singleton.mp z]; unfold zrOk; rw [hb]; rfl
  · refine gs_ret g2 (r_eq (r_bl (b := true)) ?_) fun v H' g' r => fin_D g' (fun _ h => h) r hR
    have : zeroM p.1 p.2.1 p.2.2 = true := by
      unfold zeroM
      exact List.all_eq_true.mpr hz
    rw [this]
end
end N34

set_option Elab.async false
set_option linter.all false
set_option maxRecDepth 100000
set_option maxHeartbeats 1000000
/-! drawn names, drawn books -/
namespace N34
open PySem PySem.Spec PyProof.Rows L2
structure NmOk (k : Nat) (B : List (List Int)) : Prop where
  bx : BxOk k 6 B
  ps : ∀ b ∈ B, 0 < b.sum
theorem NmOk.vs {k : Nat} {B : List (List Int)} (h : NmOk k B) : NmOk k (vsort B) := ⟨⟨(vsort_perm B).nodup_iff.mpr h.bx.nd, fun y hy => h.bx.cr y (vsort_mem.mp hy)⟩, fun b hb => h.ps b (vsort_mem.mp hb)⟩
theorem NmOk.few {k : Nat} {B : List (List Int)} (h : NmOk k B) (hk : k ≤ 2) : B.length ≤ 49 := by
  have h1 : B.length ≤ 7 ^ k := h.bx.few
  have : 7 ^ k ≤ 7 ^ 2 := Nat.pow_le_pow_right (by decide) hk
  omega
theorem leB_refl : ∀ x : List Int, leB x x = true
  | [] => by rw [leB_nil]
  | a :: x => by rw [leB_cons, leB_refl x]; simp
theorem NmOk.app {k : Nat} {B : List (List Int)} {x : List Int} (h : NmOk k B) (hx : CrOk k x) (h1 : 0 < x.sum) (h2 : x.sum ≤ 6) (hn : x ∉ B) : NmOk k (B ++ [x]) :=
  ⟨⟨List.nodup_append.mpr ⟨h.bx.nd, by simp, fun a ha b hb => by rw [List.mem_singleton.mp hb]; exact fun e => hn (e ▸ ha)⟩, fun y hy => by
    rcases List.mem_append.mp hy with z | z
    · exact h.bx.cr y z
    · rw [List.mem_singleton.mp z]; exact ⟨hx, h2⟩⟩, fun y hy => by
    rcases List.mem_append.mp hy with z | z
    · exact h.ps y z
    · rw [List.mem_singleton.mp z]; exact h1⟩
theorem all2_rows {cl : List Int} {k : Nat} : ∀ {l : List Int} {ds : List PyData}, All2 (fun _ d => ∃ row : List Int, row.length = k ∧ d = lint row) l ds → ∃ nm : List (List Int), nm.length = l.length ∧ (∀ r ∈ nm, r.length = k) ∧ ds = nm.map lint
  | _, _, .nil => ⟨[], rfl, fun _ h => (nomatch h), rfl⟩
  | _, _, .cons ⟨row, h1, h2⟩ r => by
    obtain ⟨nm, a, b, c⟩ := all2_rows (cl := cl) r
    exact ⟨row :: nm, by simp [a], fun r hr => (List.mem_cons.mp hr).elim (fun z => z ▸ h1) (b r), by rw [h2, c]; rfl⟩
theorem all2_ints {ζ : Type} : ∀ {l : List ζ} {ds : List PyData}, All2 (fun _ d => ∃ z : Int, d = .int z) l ds → ∃ row : List Int, row.length = l.length ∧ ds = row.map .int
  | _, _, .nil => ⟨[], rfl, rfl⟩
  | _, _, .cons ⟨z, h2⟩ r => by
    obtain ⟨nm, a, c⟩ := all2_ints r
    exact ⟨z :: nm, by simp [a], by rw [h2, c]; rfl⟩
local macro_rules | `(tactic| walk_at "sz") => `(tactic| first | omega | (simp only [List.length_zip, List.length_map, List.length_range, List.length_zipIdx]; omega) | exact ⟨by omega, by omega⟩)
local macro_rules | `(tactic| walk_at "leg") => `(tactic| repeat (first | exact LeG.nil | apply LeG.keep | apply LeG.drop))
local macro_rules | `(tactic| walk_at "sd") => `(tactic| first | trivial | assumption | omega)
section
variable {P : Program} {w : World} {K : PySem.W.Frag} {mg : Str → Option Value} {base : Heap} {C : Addr}
abbrev clks : List (List Int) := [[2], [3], [4], [2, 2], [0], [5]]
theorem clks_ok {cl : List Int} (h : cl ∈ clks) : cl.length ≤ 2 ∧ ∀ c ∈ cl, 0 ≤ c ∧ c < 100 := by
  simp only [clks, List.mem_cons, List.not_mem_nil, or_false] at h
  rcases h with rfl | rfl | rfl | rfl | rfl | rfl <;> simp
abbrev sNamed := spE fun vs F M M' R => ∃ (dl il : Addr) (k : Nat), AllR [isR dl, isD (.int k)] vs F ∧ (1 ≤ k ∧ k ≤ 2) ∧ M = dM dl il ∧ M' = dM dl il ∧ ∀ a b B, NmOk k B → ∀ v F', Dt F' v (.tuple [a, b, lvec B]) → R v F'



-- def _law_named _law_deal:X _law_kinds:i _law_form:i _law_clocks:li _law_names:lli
theorem scLawNamed : FnScope ["_law_deal", "_law_kinds", "_law_form", "_law_clocks", "_law_names", "_law_kind", "_law_clock", "_law_found", "_law_size", "_law_crowd", "_law_one"] ["_law_deal", "_law_kinds"] (defScope sLawNamed) := ⟨rfl, rfl, rfl, by decide +kernel, rfl, by decide +kernel, by decide +kernel⟩
theorem ok_lawNamed (B : Bl mg) (F : FnAt K mg "_law_named" sLawNamed) (c_any : Cl P w K mg base "_law_any" 1 ["_law_deal", "_law_bound"] sAny) (c_of : Cl P w K mg base "_law_of" 2 ["_law_deal", "_law_some"] sOf) (c__law_zero : Cl P w K mg base "_law_zero" 1 ["_law_clocks", "_law_names", "_law_crowd"] sZr) (c__law_within : Cl P w K mg base "_law_within" 1 ["_law_one", "_law_other"] lWi) (c__law_crowds : Cl P w K mg base "_law_crowds" 5 ["_law_kinds", "_law_size"] (sCr 4)) : Cl P w K mg base "_law_named" 6 ["_law_deal", "_law_kinds"] sNamed := by
  refine cl_E F scLawNamed (fun vs F M M' R ⟨dl, il, ds, h, _⟩ => h.length) (fun _ _ _ _ _ _ us hl => match us, hl with | [_, _], _ => rfl) fun f cdv A outer s H vs S M M' R E hr al ce ⟨dl, il, k, ha, ⟨hk1, hk2⟩, eM, eM', hR⟩ => ?_
  subst eM eM'
  have g := Sg.startC (M := dM dl il) (Rs := [isR dl, isD (.int k)]) (N := ["_law_deal", "_law_kinds", "_law_form", "_law_clocks", "_law_names", "_law_kind", "_law_clock", "_law_found", "_law_size", "_law_crowd", "_law_one"]) al ⟨isR_mono _, isD_mono _, trivial⟩ ha (by rw [ha.length]; exact Nat.le_of_ble_eq_true rfl) ce
  refine gs_setG g scLawNamed.nd (i := 2) (e_any c_any (hr.mono (by omega)) (M2 := []) (bd := 6) ⟨by decide, by decide⟩ (.refl _) (fun _ _ gg => g_v gg (pv 0) rfl) (fun _ _ gg => r_int)) (exR_mono _ _) fun σ1 H1 g1 => ?_
  refine gs_setX g1 scLawNamed.nd (i := 3) (e_ixL (P := fun d => ∃ cl ∈ clks, d = lint cl) (n := 6) (ds := clks.map lint) (e_of fun _ _ gg => (r_lstE lint [_, _, _, _, _, _] (ra_D (r_lstI (ra_I r_int ra_nilI)) (ra_D (r_lstI (ra_I r_int ra_nilI)) (ra_D (r_lstI (ra_I r_int ra_nilI)) (ra_D (r_lstI (ra_I r_int (ra_I r_int ra_nilI))) (ra_D (r_lstI (ra_I r_int ra_nilI)) (ra_D (r_lstI (ra_I r_int ra_nilI)) ra_nil)))))))) (e_of fun _ _ gg => g_v gg (pv 2) rfl) rfl (fun d hd => by
    obtain ⟨cl, h1, h2⟩ := List.mem_map.mp hd
    exact ⟨cl, h1, h2.symm⟩)) fun d ⟨cl, hcl, hd⟩ σ2 H2 g2 => ?_
  subst hd
  obtain ⟨hcl2, hcl3⟩ := clks_ok hcl
  refine gs_setLcG g2 rfl scLawNamed.nd (i := 4) (j := 6) (own := [("_law_clock", 6)]) (xs := cl) (Pd := fun _ d => ∃ row : List Int, row.length = k ∧ d = lint row) (fun _ _ gg => w_list (g_v gg (pv 3) rfl)) (blkOk_by (N := ["_law_deal", "_law_kinds", "_law_form", "_law_clocks", "_law_names", "_law_kind", "_law_clock", "_law_found", "_law_size", "_law_crowd", "_law_one"]) (sc := defScope sLawNamed) (by decide +kernel)) (fun _ _ _ _ _ => pg_name (i := 6) scLawNamed.nd rfl (by first | exact Or.inl rfl | exact Or.inr rfl)) (by decide) rfl (fun _ => isD_mono _) (by omega) (fun c hc S' C hS => fun _ _ _ _ _ => ?_) (fun ds hds σ3 H3 g3 => ?_)
  · obtain ⟨hc1, hc2⟩ := hcl3 c hc
    refine e_wk (e_lcG rfl scLawNamed.nd (j := 5) (own := [("_law_kind", 5)]) (xs := List.range k) (Pd := fun _ d => ∃ z : Int, d = .int z) (fun _ _ gg => r_eqW (w_range B.range (g_v gg (pv 1) rfl) (by omega) (by omega)) (by simp)) (blkOk_by (by kernel_rfl)) (fun _ _ _ _ _ => pg_name (i := 5) scLawNamed.nd rfl (by first | exact Or.inl rfl | exact Or.inr rfl)) (by decide) rfl (fun _ => isD_mono _) (by rw [List.length_range]; omega) (fun z hz S2 C2 hS2 => fun _ _ _ _ _ => ?_)) (fun v F ⟨ds, hds, r⟩ => ?_)
    · refine e_ifE (x := decide (0 < c)) (fun _ _ gg => t_gt (g_v gg (pv 6) rfl) r_int) (fun h => ?_) (fun h => ?_)
      · have h' := of_decide_eq_true h
        exact e_wk (e_any c_any (hr.mono (by omega)) (M2 := [C2, C]) (bd := c) ⟨by omega, by omega⟩ (by exact List.perm_append_comm (l₁ := [C2, C])) (fun _ _ gg => g_v gg (pv 0) rfl) (fun _ _ gg => g_v gg (pv 6) rfl)) fun v F ⟨z, _, r⟩ => ⟨.int z, ⟨z, rfl⟩, r⟩
      · exact e_of2 c_of (hr.mono (by omega)) (M2 := [C2, C]) (ds := [1, 2, -1, -2, 0].map PyData.int) ⟨by decide, by decide⟩ (by exact List.perm_append_comm (l₁ := [C2, C])) (fun _ _ gg => g_v gg (pv 0) rfl) (fun _ _ gg => (r_lstI (ra_I r_int (ra_I r_int (ra_I (r_neg r_int) (ra_I (r_neg r_int) (ra_I r_int ra_nilI))))))) (fun d hd => by
          obtain ⟨z, _, e⟩ := List.mem_map.mp hd
          exact ⟨z, e.symm⟩)
    · obtain ⟨row, h1, h2⟩ := all2_ints hds
      exact ⟨.list ds, ⟨row, by rw [h1, List.length_range], by rw [h2]⟩, r⟩
  obtain ⟨nm, hn1, hn2, rfl⟩ := all2_rows (cl := cl) hds
  refine gs_newL (i := 7) (ds := []) g3 scLawNamed.nd ra_nil fun fo σ4 H4 hfo g4 => ?_
  refine gs_forZ (ζ := List (List Int)) g4 PassesOwn.never rfl (w_range2 (m := 1) (n := 7) B.range r_int (r_if (t_lt (g_v g4 (pv 1) rfl) r_int) (fun _ => r_int) (fun h => absurd h (by simp; omega))) (by decide)) (pg_name (i := 8) scLawNamed.nd rfl (by first | exact Or.inl rfl | exact Or.inr rfl)) (fun _ _ => [some (isR dl), some (isD (.int k)), some (rgR 0 6), some (isD (lint cl)), some (isD (.list (nm.map lint))), none, none, some (isR fo), none, none, none]) (fun _ z => [(fo, lisC (z.map vec))] ++ dM dl il) (fun _ z => NmOk k z) (fun H' g' => ⟨[], ⟨⟨by simp, fun _ h => (nomatch h)⟩, fun _ h => (nomatch h)⟩, g'.le (by walk_at "leg")⟩) (fun B1 pre sz post hsz z hz σ5 H5 v5 g5 hv5 => ?_) (fun z hz σ5 H5 g5 => ?_)
  · have hszm : sz ∈ List.range (7 - 1 : Int).toNat := by rw [hsz]; simp
    have hsz6 : sz < 6 := by simpa using hszm
    refine gst_name g5 rfl (isD_mono _) hv5 fun σ6 g6 => ?_


    refine gs_forZ (ζ := List (List Int)) g6 PassesOwn.never rfl (w_list (r_callD c__law_crowds (hr.mono (by omega)) (p := (_, _)) rfl (ra_D (g_v g6 (pv 1) rfl) (ra_D (g_v g6 (pv 8) rfl) ra_nil)) (by exact ⟨show (1 : Int) ≤ (k : Int) by omega, show (k : Int) ≤ (4 : Nat) by omega, show (k : Int) ≤ 4 by omega, show (0 : Int) ≤ 1 + (sz : Nat) by omega, show (1 : Int) + (sz : Nat) ≤ 8 by omega⟩))) (pg_name (i := 9) scLawNamed.nd rfl (by first | exact Or.inl rfl | exact Or.inr rfl)) (fun _ _ => [some (isR dl), some (isD (.int k)), some (rgR 0 6), some (isD (lint cl)), some (isD (.list (nm.map lint))), none, none, some (isR fo), none, none, none]) (fun _ z => [(fo, lisC (z.map vec))] ++ dM dl il) (fun _ z => NmOk k z) (fun H' g' => ⟨z, hz, g'.le (by walk_at "leg")⟩) (fun B2 pre2 x post2 hx z2 hz2 σ7 H7 v7 g7 hv7 => ?_) (fun z2 hz2 σ7 H7 g7 => sw_nil ⟨z2, hz2, g7.le (by walk_at "leg")⟩)
    have hxm : x ∈ crowdsM (k : Int).toNat (1 + (sz : Int)) := by rw [hx]; simp
    obtain ⟨k', rfl⟩ : ∃ k', k = k' + 1 := ⟨k - 1, by omega⟩
    rw [Int.toNat_natCast, crowds_mem k' _ (by omega)] at hxm
    obtain ⟨hx1, hx2, hx3⟩ := hxm
    have hxs : ∀ i ∈ x, 0 ≤ i ∧ i < 100 := fun i hi => ⟨hx2 i hi, by have := le_sum hx2 i hi; omega⟩
    have hfw := hz2.few (by omega)
    refine gst_name g7 rfl (isD_mono _) hv7 fun σ8 g8 => ?_



    refine gs_if1 g8 (QT.pt (q_and (t_val (r_callD c__law_zero (hr.mono (by omega)) (p := (_, _, _)) rfl (ra_D (g_v g8 (pv 3) rfl) (ra_D (g_v g8 (pv 4) rfl) (ra_D (g_v g8 (pv 9) rfl) ra_nil))) (by first | exact ⟨hn1, fun r hr => (hn2 r hr).trans hx1.symm, by dsimp only; omega, by dsimp only; omega, hcl3, hxs⟩ | exact ⟨by have := (hz2.bx.cr _ ‹_ ∈ z2›).1.len; dsimp only; omega, (hz2.bx.cr _ ‹_ ∈ z2›).1.len.trans hx1.symm⟩))) (fun _ => (q_one_and (t_eqNil (hu4 hr) (r_lcE (own := [("_law_one", 10)]) vec rfl scLawNamed.nd (w_listC g8 (j := 0) rfl (g_v g8 (pv 7) rfl)) (blkOk_by (N := ["_law_deal", "_law_kinds", "_law_form", "_law_clocks", "_law_names", "_law_kind", "_law_clock", "_law_found", "_law_size", "_law_crowd", "_law_one"]) (sc := defScope sLawNamed) (by decide +kernel)) (fun _ _ _ _ _ => pg_name (i := 10) scLawNamed.nd rfl (by first | exact Or.inl rfl | exact Or.inr rfl)) (by walk_at "sz") (it_name g8 (j := 10) (by decide) rfl (fun _ => isD_mono _) (fun a1 ha1 _ _ _ g1 => ⟨b_one fun _ _ _ _ _ => (t_val (r_callD c__law_within (hr.mono (by omega)) (p := (_, _)) rfl (ra_D (g_v g1 (pv 10) rfl) (ra_D (g_v g1 (pv 9) rfl) ra_nil)) (by first | exact ⟨hn1, fun r hr => (hn2 r hr).trans hx1.symm, by dsimp only; omega, by dsimp only; omega, hcl3, hxs⟩ | exact ⟨by have := (hz2.bx.cr _ ‹_ ∈ z2›).1.len; dsimp only; omega, (hz2.bx.cr _ ‹_ ∈ z2›).1.len.trans hx1.symm⟩))), fun hp1 _ _ _ _ _ => (g_v g1 (pv 10) rfl)⟩))) (by exact shp_lvec _)))))) (fun hb H9 g9 => ?_) (fun hb H9 g9 => ?_)


    · have hnot : x ∉ z2 := fun hxz => by
        have h2 := (Bool.and_eq_true _ _ ▸ hb).2
        have h3 := of_decide_eq_true h2
        rw [List.length_map, List.length_map, List.length_eq_zero_iff] at h3
        have : x ∈ z2.filter fun a => leB a x := List.mem_filter.mpr ⟨hxz, leB_refl x⟩
        rw [h3] at this; cases this

      refine gs_exprG g9 (e_app (j := 0) (e_of fun _ _ gg => (g_v gg (pv 7) rfl)) rfl (e_of fun _ _ gg => (g_v gg (pv 9) rfl)) rfl (by rw [List.length_map]; omega)) fun H10 g10 => sw_nil (sw_nil ⟨z2 ++ [x], hz2.app ⟨hx1, hx2⟩ (by omega) (by omega) hnot, ?_⟩)

      rw [List.map_append]
      exact g10.le (by walk_at "leg")
    · exact sw_nil ⟨z2, hz2, g9.le (by walk_at "leg")⟩
  · have g6 := g5.freeze (S := S) (i := 7) (j := 0) (fun b hb => List.mem_cons_of_mem _ hb) hfo rfl rfl (fun q hq => (g.ce q hq).1)


    exact gs_ret g6 (r_tup (ra_D (g_v g6 (pv 3) rfl) (ra_D (g_v g6 (pv 4) rfl) (ra_D (r_sortV B.sorted (g_v g6 (pv 7) rfl) (by intro c hc e; have := (hz.bx.cr c hc).1.len; rw [e] at this; simp at this; omega)) ra_nil)))) fun v H' g' r => fin_E g' (hR _ _ _ hz.vs _ _ r)

end
end N34

set_option Elab.async false
set_option linter.all false
set_option maxRecDepth 100000
set_option maxHeartbeats 1000000
/-! drawn books -/
namespace N34
open PySem PySem.Spec PyProof.Rows L2
structure DbOk (k : Nat) (B : List (List Int)) : Prop where
  cr : ∀ b ∈ B, CrOk k b
  ps : ∀ b ∈ B, 0 < b.sum
  nd : B.Nodup
  few : B.length ≤ 60
theorem crowds_some (k : Nat) (n : Int) (hn : 0 ≤ n) : 1 ≤ (crowdsM (k + 1) n).length := by
  refine List.length_pos_of_mem ((crowds_mem k n hn (n :: List.replicate k 0)).mpr ⟨by simp, fun x hx => ?_, by simp⟩)
  rcases List.mem_cons.mp hx with z | z
  · omega
  · rw [(List.mem_replicate.mp z).2]; omega
theorem NmOk.db {k : Nat} {B : List (List Int)} (h : NmOk k B) : DbOk k (B.take 11) := ⟨fun b hb => (h.bx.cr b (List.mem_of_mem_take hb)).1, fun b hb => h.ps b (List.mem_of_mem_take hb), h.bx.nd.sublist (List.take_sublist _ _), by rw [List.length_take]; omega⟩
theorem DbOk.sub {k : Nat} {B B' : List (List Int)} (h : DbOk k B) (s : B'.Sublist B) : DbOk k B' := ⟨fun b hb => h.cr b (s.subset hb), fun b hb => h.ps b (s.subset hb), h.nd.sublist s, Nat.le_trans s.length_le h.few⟩
theorem DbOk.vs {k : Nat} {B : List (List Int)} (h : DbOk k B) : DbOk k (vsort B) := ⟨fun y hy => h.cr y (vsort_mem.mp hy), fun b hb => h.ps b (vsort_mem.mp hb), (vsort_perm B).nodup_iff.mpr h.nd, by rw [(vsort_perm B).length_eq]; exact h.few⟩
theorem DbOk.app {k : Nat} {B : List (List Int)} {x : List Int} (h : DbOk k B) (hx : CrOk k x) (h1 : 0 < x.sum) (hn : x ∉ B) (hl : B.length < 60) : DbOk k (B ++ [x]) :=
  ⟨fun y hy => by
    rcases List.mem_append.mp hy with z | z
    · exact h.cr y z
    · rw [List.mem_singleton.mp z]; exact hx, fun y hy => by
    rcases List.mem_append.mp hy with z | z
    · exact h.ps y z
    · rw [List.mem_singleton.mp z]; exact h1, List.nodup_append.mpr ⟨h.nd, by simp, fun a ha b hb => by rw [List.mem_singleton.mp hb]; exact fun e => hn (e ▸ ha)⟩, by rw [List.length_append]; simp; omega⟩
section
variable {X : Cx} {S : List Addr} {Bs : List Hp} {Γ : Ga} {M M1 M2 : Ce} {σ : L2.St} {H : Hp} {D : Ends} {rest : List Stmt} {e a c : Expr} {pos : Pos} {τ : Type} {Q : VK}
theorem gs_ifJX {ζ : Type} {A : List Stmt} {x : Bool} (J : ζ → Prop) (Γ2 : ζ → Ga) (M2 : ζ → Ce) (g : Sg S Bs Γ M σ H) (hc : PT X c (tRT S σ H x))
    (h1 : x = true → ∀ H', Sg S Bs Γ M σ H' → SW X { D with nx := fun σ' H' => ∃ z, J z ∧ Sg S Bs (Γ2 z) (M2 z) σ' H' } A σ H') (h2 : x = false → ∀ H', Sg S Bs Γ M σ H' → ∃ z, J z ∧ Sg S Bs (Γ2 z) (M2 z) σ H') (k : ∀ z, J z → ∀ σ' H', Sg S Bs (Γ2 z) (M2 z) σ' H' → SW X D rest σ' H') : SW X D (.If c A [] pos :: rest) σ H :=
  gs_if1 g hc (fun h H' g' => SW_mono (h1 h H' g') (fun σ H ⟨z, jz, g2⟩ => k z jz σ H g2) fun _ _ z => z) fun h H' g' => have ⟨z, jz, g2⟩ := h2 h H' g'; k z jz _ _ g2
theorem cut_take {xs : List V} (n : Nat) : cutV xs none (some (n : Int)) = xs.take n := by
  unfold cutV
  have z : HT.sIx xs.length 0 none = 0 := rfl
  rw [z, sIx_hi, List.drop_zero, Nat.sub_zero]
  by_cases c : n ≤ xs.length
  · rw [Nat.min_eq_left c]
  · rw [Nat.min_eq_right (by omega), List.take_length, List.take_of_length_le (by omega)]
/-- a slice that becomes a cell -/
theorem se_slC {P : τ → Prop} {F : τ → List PyData} {n kk : Nat} {p1 p2 : Pos} (g : Sg S Bs Γ M σ H) (ha : PE X e (tG S Bs Γ M M1 (exR P fun t => .list (F t)))) (k : ∀ t, P t → ∀ l H', l ∉ S → Sg (l :: S) Bs Γ ((l, lisC ((F t).take n)) :: M1) σ H' → Q (.ref l) H') : SE X (.Subscript e (.Slice none (some (.Constant (.int n) kk p1)) none p2) pos) σ H Q :=
  se_of (pe_slice sl_list ha (PO_imp po_none (t' := fun σ H Q => Q none H) fun _ _ _ h => h) (PO_imp (po_some pe_int) (t' := fun σ H Q => Q (some (n : Int)) H) fun _ _ _ h => ⟨_, rfl, h⟩)) ⟨g, fun v H1 g1 e1 ⟨t, pt, r⟩ => by
    obtain ⟨a, xs, rfl, h3, h4⟩ := r.lstI
    refine ⟨a, xs, rfl, SqL.of (hid_le _ _ h3), fun p hp => ?_⟩
    rw [cut_take]
    exact k t pt p _ (g1.al.out hp) (g1.fresh (Ex.refl _) hp (lisC_mono _) ⟨_, rfl, (h4.take n).mono (hid_cons (Ex.new hp) hp)⟩)⟩
end
local macro_rules | `(tactic| walk_at "sz") => `(tactic| first | omega | (simp only [List.length_zip, List.length_map, List.length_range, List.length_zipIdx]; omega) | exact ⟨by omega, by omega⟩)
local macro_rules | `(tactic| walk_at "leg") => `(tactic| repeat (first | exact LeG.nil | apply LeG.keep | apply LeG.drop))
local macro_rules | `(tactic| walk_at "sd") => `(tactic| first | trivial | assumption | omega)
section
variable {P : Program} {w : World} {K : PySem.W.Frag} {mg : Str → Option Value} {base : Heap} {C : Addr}
abbrev sBook := spE fun vs F M M' R => ∃ (dl il : Addr), AllR [isR dl, isD (.int 2)] vs F ∧ M = dM dl il ∧ M' = dM dl il ∧ ∀ (k : Nat) B, 1 ≤ k → k ≤ 2 → DbOk k B → ∀ v F', Dt F' v (.tuple [.int k, lvec B]) → R v F'

-- def _law_book _law_deal:X _law_most:i _law_kinds:i _law_form:i
theorem scLawBook : FnScope ["_law_deal", "_law_most", "_law_kinds", "_law_form", "_law_batches", "_law_one", "_law_turn", "_law_batch"] ["_law_deal", "_law_most"] (defScope sLawBook) := ⟨rfl, rfl, rfl, by decide +kernel, rfl, by decide +kernel, by decide +kernel⟩
theorem ok_lawBook (B : Bl mg) (F : FnAt K mg "_law_book" sLawBook) (c_any : Cl P w K mg base "_law_any" 1 ["_law_deal", "_law_bound"] sAny) (c_of : Cl P w K mg base "_law_of" 2 ["_law_deal", "_law_some"] sOf) (c_more : Cl P w K mg base "_law_more" 1 ["_law_one", "_law_other"] lMo) (c_crowds : Cl P w K mg base "_law_crowds" 5 ["_law_kinds", "_law_size"] (sCr 4)) (c_named : Cl P w K mg base "_law_named" 6 ["_law_deal", "_law_kinds"] sNamed) : Cl P w K mg base "_law_book" 7 ["_law_deal", "_law_most"] sBook := by
  refine cl_E F scLawBook (fun vs F M M' R ⟨dl, il, h, _⟩ => h.length) (fun _ _ _ _ _ _ us hl => match us, hl with | [_, _], _ => rfl) fun f cdv A outer s H vs S M M' R E hr al ce ⟨dl, il, ha, eM, eM', hR⟩ => ?_
  subst eM eM'
  have g := Sg.startC (M := dM dl il) (Rs := [isR dl, isD (.int 2)]) (N := ["_law_deal", "_law_most", "_law_kinds", "_law_form", "_law_batches", "_law_one", "_law_turn", "_law_batch"]) al ⟨isR_mono _, isD_mono _, trivial⟩ ha (by rw [ha.length]; exact Nat.le_of_ble_eq_true rfl) ce
  refine sx_par2 (i := 2) (j := 3) rfl scLawBook.nd (se_G g (e_opA (i := 1) (P := fun t : Int => 0 ≤ t ∧ t < 2) (F := id) (e_of fun _ _ _ => r_int) (e_any c_any (hr.mono (by omega)) (M2 := []) (bd := 2) ⟨by decide, by decide⟩ (.refl _) (fun _ _ gg => g_v gg (pv 0) rfl) (fun _ _ gg => g_v gg (pv 1) rfl))) fun v H1 g1 e1 r1 => se_G g1 (e_any c_any (hr.mono (by omega)) (M2 := []) (bd := 5) ⟨by decide, by decide⟩ (.refl _) (fun _ _ gg => g_v gg (pv 0) rfl) (fun _ _ gg => r_int)) fun w2 H2 g2 e2 r2 => ?_)
  obtain ⟨t, ⟨ht1, ht2⟩, r1⟩ := r1
  obtain ⟨fm, ⟨hf1, hf2⟩, r2⟩ := r2
  obtain ⟨k, hk⟩ : ∃ k : Nat, 1 + id t = k := ⟨(1 + id t).toNat, by simp; omega⟩
  have r1' : Dt (hid S H1) v (.int (1 + id t)) := r1
  rw [hk] at r1'
  have hk1 : 1 ≤ k := by simp at hk; omega
  have hk2 : k ≤ 2 := by simp at hk; omega
  have g3 := (g2.set (i := 2) (blt rfl) (isD_mono _) (r1'.mono e2)).set (i := 3) (blt rfl) (isD_mono _) r2
  refine gs_if1 g3 (t_lt (g_v g3 (pv 3) rfl) r_int) (fun hb H4 g4 => ?_) (fun hb H4 g4 => ?_)
  · by_cases hf : fm = 2
    · refine sx_set scLawBook.nd (i := 4) (se_slC (n := 11) (P := fun t : PyData × PyData × List (List Int) => NmOk k t.2.2) (F := fun t => t.2.2.map vec) g4 (e_ixT (P := fun t : PyData × PyData × List (List Int) => NmOk k t.2.2) (F := fun t => [t.1, t.2.1, lvec t.2.2]) (G := fun t => lvec t.2.2) (e_callE (M1 := dM dl il) (M1' := dM dl il) (M2 := []) c_named (hr.mono (by omega)) (ea_of fun _ _ gg => ra_cons (isR_mono dl) (g_v gg (pv 0) rfl) (ra_D (g_v gg (pv 2) rfl) ra_nil)) (fun vs F h => ⟨dl, il, k, h, ⟨hk1, hk2⟩, rfl, rfl, fun a b B hB v F' r => ⟨(a, b, B), hB, r⟩⟩) rfl) (e_of fun _ _ _ => r_int) (fun t => rfl)) fun ⟨a, b, Bt⟩ hB l H5 hl g5 => ?_)
      have hdb := hB.db
      rw [show (Bt.map vec).take 11 = (Bt.take 11).map vec by rw [List.map_take]] at g5
      generalize Bt.take 11 = Bt' at g5 hdb
      have hfw := hdb.few
      have g6 := g5.set (i := 4) (blt rfl) (isR_mono l) rfl
      refine gs_if1 g6 (QT.pt (q_and (y := false) (t_eqI (g_v g6 (pv 3) rfl) r_int) (fun h => absurd (of_decide_eq_true h) (by omega)))) (fun hb H7 g7 => absurd hb (by simp)) (fun hb H7 g7 => ?_)
      refine gs_ifJX (ζ := List (List Int)) (DbOk k) (fun _ => [some (isR dl), some (isD (.int 2)), some (isD (.int k)), some (isD (.int fm)), some (isR l), none, none, none]) (fun z => (l, lisC (z.map vec)) :: dM dl il) g7 (QT.pt (q_and (t_eqI (g_v g7 (pv 3) rfl) r_int) (fun h => q_one_and (t_neNilC g7 (hu4 hr) (j := 0) rfl (g_v g7 (pv 4) rfl) (shp_lvec _))))) (fun hb H8 g8 => ?_) (fun hb H8 g8 => ⟨Bt', hdb, g8.le (by walk_at "leg")⟩) (fun z hz σ8 H8 g8 => ?_)
      · have hne : 0 < Bt'.length := by
          cases Bt' with
          | nil => simp at hb
          | cons a l => simp
        refine sx_expr (se_popAt (j := 0) g8 (fun _ _ gg => g_v gg (pv 4) rfl) (e_any c_any (hr.mono (by omega)) (M2 := [(l, lisC (Bt'.map vec))]) (bd := Bt'.length) ⟨by omega, by omega⟩ (List.perm_append_comm (l₁ := [_])) (fun _ _ gg => g_v gg (pv 0) rfl) (fun _ _ gg => r_eq (g_lenC gg (j := 0) rfl B.len (g_v gg (pv 4) rfl)) (by rw [List.length_map]))) rfl rfl (by rw [List.length_map]) (by rw [List.length_map]; omega) fun m d hd v H9 g9 dv => sw_nil ⟨Bt'.eraseIdx m, hdb.sub (List.eraseIdx_sublist _ _), ?_⟩)
        rw [erase_map] at g9
        exact g9.le (by walk_at "leg")
      · have g9 := g8.freeze (S := S) (i := 4) (j := 0) (fun b hb => List.mem_cons_of_mem _ hb) hl rfl rfl (fun q hq => (g.ce q hq).1)

        exact gs_ret g9 (r_tup (ra_D (g_v g9 (pv 2) rfl) (ra_D (g_v g9 (pv 4) rfl) ra_nil))) fun v H' g' r => fin_E g' (hR k z hk1 hk2 hz _ _ r)
    · refine gs_setX (i := 4) g4 scLawBook.nd (e_slL (n := 11) (P := fun t : PyData × PyData × List (List Int) => NmOk k t.2.2) (F := fun t => t.2.2.map vec) (e_ixT (P := fun t : PyData × PyData × List (List Int) => NmOk k t.2.2) (F := fun t => [t.1, t.2.1, lvec t.2.2]) (G := fun t => lvec t.2.2) (e_callE (M1 := dM dl il) (M1' := dM dl il) (M2 := []) c_named (hr.mono (by omega)) (ea_of fun _ _ gg => ra_cons (isR_mono dl) (g_v gg (pv 0) rfl) (ra_D (g_v gg (pv 2) rfl) ra_nil)) (fun vs F h => ⟨dl, il, k, h, ⟨hk1, hk2⟩, rfl, rfl, fun a b B hB v F' r => ⟨(a, b, B), hB, r⟩⟩) rfl) (e_of fun _ _ _ => r_int) (fun t => rfl))) fun ⟨a, b, Bt⟩ hB σ5 H5 g5 => ?_
      have hdb := hB.db
      rw [show (Bt.map vec).take 11 = (Bt.take 11).map vec by rw [List.map_take]] at g5
      have hfw : (Bt.take 11).length ≤ 11 := by rw [List.length_take]; omega
      generalize Bt.take 11 = Bt at g5 hdb hfw
      refine gs_ifJX (ζ := List (List Int)) (DbOk k) (fun z => [some (isR dl), some (isD (.int 2)), some (isD (.int k)), some (isD (.int fm)), some (isD (lvec z)), none, none, none]) (fun z => dM dl il) g5 (QT.pt (q_and (t_eqI (g_v g5 (pv 3) rfl) r_int) (fun _ => (q_one_and (t_gt (r_lenL B.len (g_v g5 (pv 4) rfl)) r_int))))) (fun hb H6 g6 => ?_) (fun hb H6 g6 => ⟨Bt, hdb, g6.le (by walk_at "leg")⟩) (fun z hz σ6 H6 g6 => ?_)
      · have hlt : 1 < Bt.length := by
          have := of_decide_eq_true (Bool.and_eq_true _ _ ▸ hb).2
          rw [List.length_map] at this; omega
        refine gs_setX (i := 5) g6 scLawBook.nd (P := fun t : List Int => ∃ x ∈ Bt, ∃ y ∈ Bt, t = addL x y) (F := vec) (e_call c_more (hr.mono (by omega)) (ea_cons (exR_mono _ _) (e_of2 c_of (hr.mono (by omega)) (M2 := []) (ds := Bt.map vec) (Pd := fun d => ∃ x ∈ Bt, d = vec x) (by rw [List.length_map]; omega) (.refl _) (fun _ _ gg => g_v gg (pv 0) rfl) (fun _ _ gg => g_v gg (pv 4) rfl) (fun d hd => by obtain ⟨x, hx, e⟩ := List.mem_map.mp hd; exact ⟨x, hx, e.symm⟩)) (ea_cons (exR_mono _ _) (e_of2 c_of (hr.mono (by omega)) (M2 := []) (ds := Bt.map vec) (Pd := fun d => ∃ x ∈ Bt, d = vec x) (by rw [List.length_map]; omega) (.refl _) (fun _ _ gg => g_v gg (pv 0) rfl) (fun _ _ gg => g_v gg (pv 4) rfl) (fun d hd => by obtain ⟨x, hx, e⟩ := List.mem_map.mp hd; exact ⟨x, hx, e.symm⟩)) ea_nil)) (fun vs F h => ?_)) fun one ⟨x, hx, y, hy, e1⟩ σ7 H7 g7 => ?_
        · obtain ⟨v1, w1, rfl, ⟨d1, ⟨x, hx, rfl⟩, r1⟩, h⟩ := h
          obtain ⟨v2, w2, rfl, ⟨d2, ⟨y, hy, rfl⟩, r2⟩, h⟩ := h
          have hlx := (hdb.cr x hx).len
          have hly := (hdb.cr y hy).len
          exact ⟨(x, y), ⟨v1, _, rfl, r1, v2, _, rfl, r2, h⟩, ⟨by dsimp only; omega, by dsimp only; omega⟩, fun v F' r => ⟨addL x y, ⟨x, hx, y, hy, rfl⟩, r⟩⟩
        · have hlx := hdb.cr x hx
          have hly := hdb.cr y hy
          obtain ⟨hc1, hs1⟩ : CrOk k one ∧ one.sum = x.sum + y.sum := by
            rw [e1]; exact ⟨⟨by rw [addL_len, hlx.len, hly.len, Nat.min_self], addL_nn hlx.nn hly.nn⟩, addL_sum (hlx.len.trans hly.len.symm)⟩
          have hp1 := hdb.ps x hx
          have hp2 := hdb.ps y hy

          refine gs_setX (i := 4) g7 scLawBook.nd (P := DbOk k) (F := lvec) (e_of fun _ _ gg => r_if (QT.pt (q_and (t_ninV (hu5 hr) (g_v gg (pv 5) rfl) (g_v gg (pv 4) rfl)) (fun _ => (q_one_and (t_lt (r_sumT rfl B.sum (g_v gg (pv 5) rfl)) r_int))))) (fun h => PE_wk (r_sortV B.sorted (r_catLe vec (g_v gg (pv 4) rfl) (r_lstE vec [_] (ra_D (g_v gg (pv 5) rfl) ra_nil)) (by simp; omega)) ?_) fun v F r => ⟨_, ?_, r⟩) (fun h => PE_wk (g_v gg (pv 4) rfl) fun v F r => ⟨Bt, hdb, r⟩)) fun z hz σ8 H8 g8 => sw_nil ⟨z, hz, g8.le (by walk_at "leg")⟩
          · intro c hc e
            rcases List.mem_append.mp hc with z | z
            · have := (hdb.cr c z).len; rw [e] at this; simp at this; omega
            · rw [List.mem_singleton.mp z] at e; have := hc1.len; rw [e] at this; simp at this; omega
          · have hn : one ∉ Bt := by
              have := (Bool.and_eq_true _ _ ▸ h).1
              simpa using this
            exact (hdb.app hc1 (by omega) hn (by omega)).vs
      · refine gs_if1 g6 (QT.pt (q_and (y := false) (t_eqI (g_v g6 (pv 3) rfl) r_int) (fun h => absurd (of_decide_eq_true h) hf))) (fun hb H7 g7 => absurd hb (by simp)) (fun hb H7 g7 => ?_)
        exact gs_ret g7 (r_tup (ra_D (g_v g7 (pv 2) rfl) (ra_D (g_v g7 (pv 4) rfl) ra_nil))) fun v H' g' r => fin_E g' (hR k z hk1 hk2 hz _ _ r)
  · refine gs_newL (i := 4) (ds := []) g4 scLawBook.nd ra_nil fun fo σ5 H5 hfo g5 => ?_
    refine gs_forRg (jn := 6) (nm := 5) (fun n L Γ' M' => L = fo :: S ∧ ∃ Bt, DbOk k Bt ∧ Bt.length ≤ n ∧ Γ' = [some (isR dl), some (isD (.int 2)), some (isD (.int k)), some (isD (.int fm)), some (isR fo), none, none, none] ∧ M' = (fo, lisC (Bt.map vec)) :: dM dl il) (g5.le (Γ := [some (isR dl), some (isD (.int 2)), some (isD (.int k)), some (isD (.int fm)), some (isR fo), none, none, none]) (by walk_at "leg")) PassesOwn.never rfl B.range (e_any c_any (hr.mono (by omega)) (M2 := [(fo, lisC [])]) (bd := 5) ⟨by decide, by decide⟩ (List.perm_append_comm (l₁ := [_])) (fun _ _ gg => g_v gg (pv 0) rfl) (fun _ _ gg => r_int)) (by decide) (pg_name (i := 6) scLawBook.nd rfl (by first | exact Or.inl rfl | exact Or.inr rfl)) ⟨rfl, [], ⟨fun _ h => (nomatch h), fun _ h => (nomatch h), by simp, by simp⟩, by simp, rfl, rfl⟩ (fun n hn L Γ' M' hL ⟨eL, Bt, hdb, hlb, eΓ, eM⟩ σ6 H6 v6 B6 g6 hv6 => ?_) (fun n hn L Γ' M' hL ⟨eL, Bt, hdb, hlb, eΓ, eM⟩ σ6 H6 g6 => ?_)
    · subst eL eΓ eM
      subst hv6
      refine gst_name (R := isD (.int n)) g6 rfl (isD_mono _) (.int _) fun σ7 g7 => ?_
      refine gs_setX (i := 7) g7 scLawBook.nd (P := fun b : List Int => CrOk k b ∧ 0 < b.sum) (F := vec) (e_perm (e_callE (M1 := dM dl il) (M1' := dM dl il) (M2 := [(fo, lisC (Bt.map vec))]) c_of (hr.mono (by omega)) (ea_cons (isR_mono dl) (e_of fun _ _ gg => g_v gg (pv 0) rfl) (ea_cons (exR_mono (fun t : Int => 0 ≤ t ∧ t < 4) (fun t => lvec (crowdsM k (1 + t)))) (e_call c_crowds (hr.mono (by omega)) (ea_cons (isD_mono _) (e_of fun _ _ gg => g_v gg (pv 2) rfl) (ea_cons (exR_mono (fun t : Int => 0 ≤ t ∧ t < 4) _) (e_opA (i := 1) (P := fun t : Int => 0 ≤ t ∧ t < 4) (F := id) (e_of fun _ _ _ => r_int) (e_any c_any (hr.mono (by omega)) (M2 := [(fo, lisC (Bt.map vec))]) (bd := 4) ⟨by decide, by decide⟩ (.refl _) (fun _ _ gg => g_v gg (pv 0) rfl) (fun _ _ gg => r_int))) ea_nil)) (fun vs F h => ?_)) ea_nil)) (fun vs F h => ?_) rfl) (List.perm_append_comm (l₁ := [_])) (List.perm_append_comm (l₂ := [_]))) fun b ⟨hb1, hb2⟩ σ8 H8 g8 => ?_
      · obtain ⟨v1, w1, rfl, r1, h⟩ := h
        obtain ⟨v2, w2, rfl, ⟨t, ⟨ht1, ht2⟩, r2⟩, h⟩ := h
        exact ⟨((k : Int), 1 + t), ⟨v1, _, rfl, r1, v2, _, rfl, r2, h⟩, ⟨show (1 : Int) ≤ (k : Int) by omega, show (k : Int) ≤ (4 : Nat) by omega, show (k : Int) ≤ 4 by omega, show (0 : Int) ≤ 1 + t by omega, show (1 : Int) + t ≤ 8 by omega⟩, fun v F' r => ⟨t, ⟨ht1, ht2⟩, r⟩⟩
      · obtain ⟨v1, w1, rfl, r1, h⟩ := h
        obtain ⟨v2, w2, rfl, ⟨t, ⟨ht1, ht2⟩, r2⟩, h⟩ := h
        obtain ⟨k', rfl⟩ : ∃ k', k = k' + 1 := ⟨k - 1, by omega⟩
        have hcl := crowds_len k' (1 + t) (by omega) (by omega)
        have hcp := crowds_some k' (1 + t) (by omega)
        have h9 : 9 ^ k' ≤ 9 ^ 1 := Nat.pow_le_pow_right (by decide) (by omega)
        refine ⟨dl, il, (crowdsM (k' + 1) (1 + t)).map vec, ⟨v1, _, rfl, r1, v2, _, rfl, r2, h⟩, ⟨by rw [List.length_map]; exact hcp, by rw [List.length_map]; omega⟩, rfl, rfl, fun d hd v F' r => ?_⟩
        obtain ⟨b, hb, rfl⟩ := List.mem_map.mp hd
        obtain ⟨q1, q2, q3⟩ := (crowds_mem k' (1 + t) (by omega) b).mp hb
        exact ⟨b, ⟨⟨q1, q2⟩, by omega⟩, r⟩
      · refine gs_if1 g8 (t_ninVC g8 (hu5 hr) (j := 0) rfl (g_v g8 (pv 7) rfl) (g_v g8 (pv 4) rfl)) (fun h H9 g9 => ?_) (fun h H9 g9 => ?_)
        · have hnb : b ∉ Bt := by simpa using h


          refine gs_exprG g9 (e_app (j := 0) (e_of fun _ _ gg => (g_v gg (pv 4) rfl)) rfl (e_of fun _ _ gg => (g_v gg (pv 7) rfl)) rfl (by rw [List.length_map]; omega)) fun H10 g10 => sw_nil (sw_nil ⟨fo :: S, _, _, hL, ⟨rfl, Bt ++ [b], hdb.app hb1 hb2 hnb (by omega), by rw [List.length_append]; simp; omega, rfl, rfl⟩, ?_⟩)

          rw [List.map_append]
          exact g10.le (by walk_at "leg")
        · exact sw_nil ⟨fo :: S, _, _, hL, ⟨rfl, Bt, hdb, by omega, rfl, rfl⟩, g9.le (by walk_at "leg")⟩
    · subst eL eΓ eM
      have g7 := g6.freeze (S := S) (i := 4) (j := 0) (fun b hb => List.mem_cons_of_mem _ hb) hfo rfl rfl (fun q hq => (g.ce q hq).1)


      exact gs_ret g7 (r_tup (ra_D (g_v g7 (pv 2) rfl) (ra_D (r_sortV B.sorted (g_v g7 (pv 4) rfl) (by intro c hc e; have := (hdb.cr c hc).len; rw [e] at this; simp at this; omega)) ra_nil))) fun v H' g' r => fin_E g' (hR k _ hk1 hk2 hdb.vs _ _ r)

end
end N34

set_option Elab.async false
set_option linter.all false
set_option maxRecDepth 100000
set_option maxHeartbeats 1000000
/-! the script, the deal made of it -/
namespace N34
open PySem PySem.Spec PyProof.Rows L2
abbrev isScr (K : PySem.W.Frag) (ns : List Int) : RV := fun v F => ∃ a, v = .ref a ∧ SqL K F a (ns.map .int)
theorem isScr_mono (K : PySem.W.Frag) (ns : List Int) : Mono (isScr K ns) := fun _ _ _ e ⟨a, h1, h2⟩ => ⟨a, h1, h2.ext e⟩
section
variable {X : Cx} {S : List Addr} {Bs : List Hp} {Γ : Ga} {M : Ce} {σ σ0 : L2.St} {H H0 : Hp} {e a b c : Expr} {pos : Pos} {Q : VK} {ds : List PyData}
theorem r_slScr {ns : List Int} {n : Nat} {hi : Expr} {p2 : Pos} (ha : PE X e (tR S σ0 H0 (isScr X.K ns))) (hb : PE X hi (tR S σ0 H0 (isD (.int n)))) : PE X (.Subscript e (.Slice none (some hi) none p2) pos) (tR S σ0 H0 (isD (lint (ns.take n)))) :=
  PE_imp (pe_slice sl_list ha o_none (o_some hb)) fun σ H Q ⟨q, ex, al, k⟩ => ⟨q, ex, al, fun v H1 e1 r => ⟨q, ex.trans e1, al.ex e1, fun H2 e2 => ⟨q, (ex.trans e1).trans e2, (al.ex e1).ex e2, fun H3 e3 => by
    obtain ⟨a, rfl, h3⟩ := r
    have al3 := ((al.ex e1).ex e2).ex e3
    refine ⟨a, _, rfl, ((h3.ext hid_le).ext e2).ext e3, fun p hp => ?_⟩
    rw [cut_take, ← List.map_take]
    exact k _ _ (((e1.trans e2).trans e3).trans (Ex.new hp)) (.lst (hid_new al3 hp) (.of_ints _))⟩⟩⟩
/-- [a, b], a a list told backwards: two new objects -/
theorem se_deal {ns : List Int} {i : Int} {kk : Nat} {p1 p2 p3 pe : Pos} (g : Sg S Bs Γ M σ H) (ha : PE X e (tR S σ H (isD (lint ns)))) (hb : ∀ H, Sg S Bs Γ M σ H → PE X b (tR S σ H (isD (.int i))))
    (k : ∀ dl il H2, Ex H H2 → H dl = none → H il = none → dl ≠ il → H2 dl = some (.lst [.ref il, .int i]) → H2 il = some (.lst (ns.reverse.map .int)) → Q (.ref dl) H2)
    (h1 : starEach [.Subscript e (.Slice none none (some (.UnaryOp .USub (.Constant (.int 1) kk p1) p2)) p3) pe, b] X.env = (false, eval (.Subscript e (.Slice none none (some (.UnaryOp .USub (.Constant (.int 1) kk p1) p2)) p3) pe) X.env) :: starEach [b] X.env := by rfl) (h2 : starEach [b] X.env = (false, eval b X.env) :: starEach [] X.env := by rfl) :
    SE X (.List [.Subscript e (.Slice none none (some (.UnaryOp .USub (.Constant (.int 1) kk p1) p2)) p3) pe, b] pos) σ H Q :=
  se_of (pe_lst (pa_cons (pe_revL ha) (pa_cons pe_SE pa_nil h2) h1)) ⟨rfl, Ex.refl _, g.al, fun v H1 e1 r => by
    obtain ⟨a, rfl, h3⟩ := r.lintI
    refine ⟨a, _, rfl, SqL.of (hid_le _ _ h3), fun il hil => ?_⟩
    have e2 : Ex H1 (upd H1 il (.lst (ns.map V.int).reverse)) := Ex.new hil
    refine se_g (g.next (e1.trans e2)) (hb _ (g.next (e1.trans e2))) fun w H3 g3 e3 rw' => ?_
    obtain rfl := rw'.intI
    refine ⟨sz (show 2 ≤ 100000 by decide), fun dl hdl => ?_⟩
    have hne : dl ≠ il := fun z => by rw [z, e3 _ _ upd_same] at hdl; cases hdl
    refine k dl il _ (((e1.trans e2).trans e3).trans (Ex.new hdl)) ((((e1.trans e2).trans e3)).free hdl) (e1.free hil) hne upd_same ?_
    rw [upd_ne (Ne.symm hne), e3 _ _ upd_same, List.map_reverse]⟩
end
local macro_rules | `(tactic| walk_at "sz") => `(tactic| first | omega | (simp only [List.length_zip, List.length_map, List.length_range, List.length_zipIdx, List.length_take]; omega) | exact ⟨by omega, by omega⟩)
local macro_rules | `(tactic| walk_at "leg") => `(tactic| repeat (first | exact LeG.nil | apply LeG.keep | apply LeG.drop))
section
variable {P : Program} {w : World} {K : PySem.W.Frag} {mg : Str → Option Value} {base : Heap} {C : Addr}
def spDr (K : PySem.W.Frag) : Sp := fun vs H Q _ => ∃ S ns, Al S H ∧ AllR [isScr K ns, isD (.int 34)] vs (hid S H) ∧ ∀ (dl il : Addr) (b : Int) (ms : List Int) H2, Ex H H2 → H dl = none → H il = none → dl ≠ il → H2 dl = some (.lst [.ref il, .int b]) → H2 il = some (.lst (ms.map .int)) → (0 ≤ b ∧ b < 2147483647) → (∀ x ∈ ms, 0 ≤ x) → ms.length ≤ 48 → Q (.ref dl) H2
@[irreducible] def absL (ns : List Int) : List Int := (ns.take 48).map fun i => if i < 0 then -i else i
theorem absL_ok (ns : List Int) : (∀ x ∈ absL ns, 0 ≤ x) ∧ (absL ns).length ≤ 48 := by
  unfold absL
  refine ⟨fun x hx => ?_, by rw [List.length_map, List.length_take]; omega⟩
  obtain ⟨i, _, rfl⟩ := List.mem_map.mp hx
  split <;> omega
-- def _law_draw _law_script:S _law_salt:i _law_blend:i
theorem scLawDraw : FnScope ["_law_script", "_law_salt", "_law_cells", "_law_cell", "_law_blend"] ["_law_script", "_law_salt"] (defScope sLawDraw) := ⟨rfl, rfl, rfl, by decide +kernel, rfl, by decide +kernel, by decide +kernel⟩
theorem ok_lawDraw (B : Bl mg) (F : FnAt K mg "_law_draw" sLawDraw) : Cl P w K mg base "_law_draw" 1 ["_law_script", "_law_salt"] (spDr K) := by
  obtain ⟨f, fd, Fd, hm⟩ := F.ex
  refine ⟨f, fd, Fd.ok scLawDraw (fun vs H Q E ⟨_, _, _, h, _⟩ => h.length) (fun cdv A outer s H vs Q E hr h => ⟨_, PSs.nox pss_SW, ?_⟩), hm, Fd.kp, Fd.bindsN fun _ _ _ _ _ _ us hl => match us, hl with | [_, _], _ => rfl⟩
  obtain ⟨S, ns, al, ha, q⟩ := h
  have g := Sg.start (Rs := [isScr K ns, isD (.int 34)]) (N := ["_law_script", "_law_salt", "_law_cells", "_law_cell", "_law_blend"]) al (⟨isScr_mono _ _, isD_mono _, trivial⟩) ha (by rw [ha.length]; exact Nat.le_of_ble_eq_true rfl)
  obtain ⟨ha1, ha2⟩ := absL_ok ns
  refine gs_setLcA (i := 2) (own := [("_law_cell", 3)]) .int g rfl scLawDraw.nd (w_list (r_slScr (n := 48) (g_v g (pv 0) rfl) r_int)) (blkOk_by (N := ["_law_script", "_law_salt", "_law_cells", "_law_cell", "_law_blend"]) (sc := defScope sLawDraw) (by decide +kernel)) (fun _ _ _ _ _ => pg_name (i := 3) scLawDraw.nd rfl (by first | exact Or.inl rfl | exact Or.inr rfl)) (by walk_at "sz") (it_name g (j := 3) (by decide) rfl (fun _ => isD_mono _) (fun a1 ha1 _ _ _ g1 => ⟨b_nil, fun hp1 _ _ _ _ _ => (r_abs B.abs (r_intI B.int (g_v g1 (pv 3) rfl)))⟩)) fun σ1 H1 g1 => ?_
  have eA : List.map (fun i : Int => if i < 0 then -i else i) (ns.take 48) = absL ns := by unfold absL; rfl
  rw [eA] at g1


  refine gs_set g1 (i := 4) scLawDraw.nd (r_add r_int (r_mul r_int (g_v g1 (pv 1) rfl) (by exact Or.inl ⟨by omega, by omega⟩))) (isD_mono _) fun σ2 H2 g2 => ?_
  refine gs_forZ (ζ := Int) g2 PassesOwn.never rfl (w_list (g_v g2 (pv 2) rfl)) (pg_name (i := 3) scLawDraw.nd rfl (by first | exact Or.inl rfl | exact Or.inr rfl)) (fun _ b => [some (isScr K ns), some (isD (.int 34)), some (isD (lint (absL ns))), none, some (isD (.int b))]) (fun _ _ => []) (fun _ b => 0 ≤ b ∧ b < 2147483647) (fun H' g' => ⟨7919 + 104729 * 34, ⟨by decide, by decide⟩, g'.le (by walk_at "leg")⟩) (fun B' pre x post hx b hb σ3 H3 v g3 hv => ?_) (fun b hb σ3 H3 g3 => ?_)
  · refine gst_name g3 rfl (isD_mono _) hv fun σ4 g4 => ?_



    refine gs_set g4 (i := 4) scLawDraw.nd (r_mod (r_intI B.int (r_add (r_add (r_mul (g_v g4 (pv 4) rfl) r_int (by exact Or.inr ⟨by decide, by decide⟩)) (r_mod (g_v g4 (pv 3) rfl) r_int (by decide))) r_int)) r_int (by decide)) (isD_mono _) fun σ5 H5 g5 => sw_nil ⟨_, ⟨Int.emod_nonneg _ (by decide), Int.emod_lt_of_pos _ (by decide)⟩, g5.le (by walk_at "leg")⟩

  · have e0 := g3.ex _ List.mem_cons_self

    refine sx_ret (se_deal (ns := (absL ns).filter fun x => decide (10 ^ 18 ≤ x)) g3 (r_eq (r_lc (own := [("_law_cell", 3)]) .int rfl scLawDraw.nd (w_list (g_v g3 (pv 2) rfl)) (blkOk_by (N := ["_law_script", "_law_salt", "_law_cells", "_law_cell", "_law_blend"]) (sc := defScope sLawDraw) (by decide +kernel)) (fun _ _ _ _ _ => pg_name (i := 3) scLawDraw.nd rfl (by first | exact Or.inl rfl | exact Or.inr rfl)) (by walk_at "sz") (it_name g3 (j := 3) (by decide) rfl (fun _ => isD_mono _) (fun a2 ha2 _ _ _ g2 => ⟨b_one fun _ _ _ _ _ => (t_ge (g_v g2 (pv 3) rfl) (r_pow r_int r_int (by exact ⟨by decide, by decide⟩))), fun hp2 _ _ _ _ _ => (g_v g2 (pv 3) rfl)⟩))) (by rw [map_self]; rfl)) (fun _ gg => g_v gg (pv 4) rfl) fun dl il H4 e4 h1 h2 h3 h4 h5 => ?_)
    exact q dl il b _ H4 (e0.trans e4) (e0.free h1) (e0.free h2) h3 h4 h5 hb (fun x hx => ha1 x (List.mem_filter.mp (List.mem_reverse.mp hx)).1) (by rw [List.length_reverse]; exact Nat.le_trans (List.length_filter_le _ _) ha2)
end
end N34

set_option Elab.async false
set_option linter.all false
set_option maxRecDepth 100000
set_option maxHeartbeats 1000000
/-! repr of data; defs that need the guards to be told -/
namespace N34
open PySem PySem.Spec PyProof.Rows L2
/-! ### how long a text is -/
theorem tupleText_len (ts : List Str) : (tupleText ts).length ≤ piled ts + 3 := by
  unfold tupleText
  rw [strLen_append, strLen_append]
  have e1 : ((("(" : String) : Str)).length = 1 := rfl
  have e3 : (((if ts.length == 1 then ",)" else ")" : String) : Str)).length ≤ 2 := by split <;> decide
  rw [e1]
  by_cases h : ts = []
  · subst h
    have : (Str.join ", " ([] : List Str)).length = 0 := rfl
    omega
  · have := join_length_add ts h
    omega
theorem piled_le {α : Type} {f : α → Str} {n : Nat} : ∀ {l : List α}, (∀ a ∈ l, (f a).length ≤ n) → piled (l.map f) ≤ l.length * (n + 2)
  | [], _ => by simp [piled]
  | a :: l, h => by
    have h1 := h a List.mem_cons_self
    have h2 := piled_le (l := l) (f := f) (n := n) fun b hb => h b (List.mem_cons_of_mem _ hb)
    rw [List.map_cons, piled_cons, List.length_cons, Nat.succ_mul]; omega
theorem shownAll_map {α : Type} (en : α → PyData) : ∀ l : List α, PyData.shownAll (l.map en) = l.map fun a => (en a).shown
  | [] => by simp [PyData.shownAll]
  | a :: l => by rw [List.map_cons, PyData.shownAll, shownAll_map en l, List.map_cons]
theorem showableAll_map {α : Type} (en : α → PyData) : ∀ l : List α, (∀ a ∈ l, (en a).showable = true) → PyData.showableAll (l.map en) = true
  | [], _ => by simp [PyData.showableAll]
  | a :: l, h => by rw [List.map_cons, PyData.showableAll, h a List.mem_cons_self, showableAll_map en l fun b hb => h b (List.mem_cons_of_mem _ hb)]; rfl
theorem len_small : ∀ n : Nat, n < 20 → (PyData.shown (.int (n : Int))).length ≤ 2 := by
  have h : ∀ n : Fin 20, ((toString ((n : Nat) : Int) : String) : Str).length ≤ 2 := by decide +kernel
  intro n hn
  have := h ⟨n, hn⟩
  simpa only [PyData.shown] using this
theorem small_showable {i : Int} (h : 0 ≤ i ∧ i < 20) : (PyData.int i).showable = true := by
  obtain ⟨n, rfl⟩ : ∃ n : Nat, i = n := ⟨i.toNat, by omega⟩
  have hh : ∀ n : Fin 20, (((n : Nat) : Int)).natAbs.log2 < 1920 := by decide +kernel
  have := hh ⟨n, by omega⟩
  simp only [PyData.showable]
  exact decide_eq_true this
/-- small rows -/
def SmR (x : List Int) : Prop := x.length ≤ 4 ∧ ∀ i ∈ x, 0 ≤ i ∧ i < 20
theorem vec_len {x : List Int} (h : SmR x) : (vec x).shown.length ≤ 19 := by
  show (PyData.shown (.tuple (x.map PyData.int))).length ≤ 19
  rw [PyData.shown, shownAll_map]
  have h1 := tupleText_len (x.map fun a => (PyData.int a).shown)
  have h2 := piled_le (l := x) (f := fun a => (PyData.int a).shown) (n := 2) fun i hi => by
    obtain ⟨h3, h4⟩ := h.2 i hi
    obtain ⟨n, rfl⟩ : ∃ n : Nat, i = n := ⟨i.toNat, by omega⟩
    exact len_small n (by omega)
  have := h.1
  omega
theorem vec_showable {x : List Int} (h : SmR x) : (vec x).showable = true := by
  show PyData.showable (.tuple (x.map PyData.int)) = true
  rw [PyData.showable]
  exact showableAll_map _ _ fun i hi => small_showable (h.2 i hi)
structure RpOk (d : PyData) : Prop where
  dis : isDisplay d = true
  sh : d.showable = true
  nd : d.hasDict = false
  dp : d.depth ≤ 60
  ln : d.shown.length ≤ sizeLine
theorem tvec_rp {B : List (List Int)} (h : ∀ x ∈ B, SmR x) (hl : B.length ≤ 100000) : RpOk (tvec B) := by
  refine ⟨rfl, ?_, PyData.hasDict_of_canLay _ (lay_tup lay_vec B), Nat.le_trans (dep_tup dep_vec B) (by decide), ?_⟩
  · show PyData.showable (.tuple (B.map vec)) = true
    rw [PyData.showable]
    exact showableAll_map _ _ fun x hx => vec_showable (h x hx)
  · show (PyData.shown (.tuple (B.map vec))).length ≤ sizeLine
    rw [PyData.shown, shownAll_map]
    have h1 := tupleText_len (B.map fun a => (vec a).shown)
    have h2 := piled_le (l := B) (f := fun a => (vec a).shown) (n := 19) fun x hx => vec_len (h x hx)
    have h3 : sizeLine = 16777216 := by decide
    omega
theorem bls_rp (a b : Bool) : RpOk (.list [.bool a, .bool b]) :=
  ⟨rfl, by cases a <;> cases b <;> decide +kernel, by cases a <;> cases b <;> decide +kernel, by cases a <;> cases b <;> decide +kernel, by cases a <;> cases b <;> decide +kernel⟩
section
variable {X : Cx} {S : List Addr} {Bs : List Hp} {Γ : Ga} {M M' : Ce} {σ σ0 : L2.St} {H H0 : Hp} {a b c e : Expr} {es : List Expr} {pos p : Pos} {d : PyData}
theorem call_reprD (hg : X.A.guards = some []) (hu : X.A.units + 64 < cLine) : CallR X (.builtin "repr") (fun xs H Q => ∃ v d, xs = [v] ∧ Dp X.K H v d ∧ RpOk d ∧ Q (.str d.shown) H) := by
  intro pins s σ H xs us Q I r h
  obtain ⟨v, d, rfl, hd, hr, q⟩ := h
  obtain ⟨u, rfl, ru⟩ := vals1 r
  obtain ⟨as, r1⟩ := Dp.reads I d v u hd ru
  obtain ⟨a, rfl⟩ := isRef_of_reads r1 hr.dis
  refine repr_of_reads' (Q := EP X pins σ Q) r1 hr.sh (PyData.noDict_hsm hr.nd) hg (by have := hr.dp; omega) (fun _ _ e => e) (fun h' u tk hk => ?_) hr.ln
  exact ⟨.str d.shown, H, I.kept hk, ⟨_, rfl⟩, q⟩
theorem call_reprB : CallR X (.builtin "repr") (fun xs H Q => ∃ b, xs = [.bl b] ∧ Q (.str (PyData.shown (.bool b))) H) := by
  intro pins s σ H xs us Q I r h
  obtain ⟨b, rfl, q⟩ := h
  obtain ⟨u, rfl, ru⟩ := vals1 r
  cases ru
  refine PySem.P.repr_of_bool (Q := EP X pins σ Q) ?_
  refine ⟨.str (if b then "True" else "False"), H, I.tok _, ⟨_, rfl⟩, ?_⟩
  have e : PyData.shown (.bool b) = if b = true then Str.ofString "True" else Str.ofString "False" := by simp only [PyData.shown]
  rw [← e]; exact q
theorem r_repr (hg : X.A.guards = some []) (hu : X.A.units + 64 < cLine) (hm : X.mg "repr" = none) (ha : PE X a (tR S σ0 H0 (isD d))) (hd : RpOk d) (hgl : Gl X "repr" := by rfl) (hs : starEach [a] X.env = (false, eval a X.env) :: starEach [] X.env := by rfl) : PE X (.Call (.Name "repr" p) [a] [] pos) (tR S σ0 H0 (isD (.str d.shown))) :=
  r_callB (call_reprD hg hu) hm (by decide +kernel) (ra_1 ha hs) (fun vs H _ _ h Q k => by
    obtain ⟨v, ws, rfl, h1, h2⟩ := h
    cases h2
    exact ⟨v, d, rfl, (h1.mono hid_le).dp, hd, k _ H (Ex.refl _) (.str _)⟩) hgl (he := hs)
theorem r_reprB {x : Bool} (hm : X.mg "repr" = none) (ha : PE X a (tR S σ0 H0 (isD (.bool x)))) (hgl : Gl X "repr" := by rfl) (hs : starEach [a] X.env = (false, eval a X.env) :: starEach [] X.env := by rfl) : PE X (.Call (.Name "repr" p) [a] [] pos) (tR S σ0 H0 (isD (.str (PyData.shown (.bool x))))) :=
  r_callB call_reprB hm (by decide +kernel) (ra_1 ha hs) (fun vs H _ _ h Q k => by
    obtain ⟨v, ws, rfl, h1, h2⟩ := h
    cases h2
    exact ⟨x, by rw [h1.blI], k _ H (Ex.refl _) (.str _)⟩) hgl (he := hs)
end
end N34

set_option Elab.async false
set_option linter.all false
set_option maxRecDepth 100000
set_option maxHeartbeats 1000000
/-! defs that need the guards to be told; the law's call -/
namespace N34
open PySem PySem.Spec PyProof.Rows L2
structure FnG (P : Program) (w : World) (K : PySem.W.Frag) (mg : Str → Option Value) (base : Heap) (k : Nat) (f : Addr) (fd : FuncData) (ps : List Str) (sp : Sp) : Prop where
  lenG : ∀ vs H Q E, sp vs H Q E → vs.length = ps.length
  runG : ∀ (B : Around) (envs : List Env) (z : Shared) (G : Hp) (as : Args) (us : List Value) (vs : List V) (Q : VK) (E : XK), B.guards = some [] → Room k B → Env0 P w K mg base B envs z G → BindsTo z fd as (ps.zip us) → Vals vs us → sp vs G Q E → codeAny (model P w) B (.call (.ref f) as) (L2.CR CX0 envs P w G z Q E) z
section
variable {P : Program} {w : World} {K : PySem.W.Frag} {mg : Str → Option Value} {base : Heap} {k : Nat} {f : Addr} {fd : FuncData} {N ps : List Str} {sp : Sp} {x qual : Str} {params : Arguments} {body : List Stmt} {scope : Scope} {dvs : List V} {kws : List (Str × V)}
theorem FnG.of (F : FunD K x qual params body scope dvs kws f fd) (S : FnScope N ps scope) (len : ∀ vs H Q E, sp vs H Q E → vs.length = ps.length)
    (hb : ∀ (cdv : Value) (B : Around) (envs : List Env) (z : Shared) (G : Hp) (vs : List V) (Q : VK) (E : XK), B.guards = some [] → Room k (B.deeper (envOfC qual scope z.heap.objs.size f cdv)) → sp vs G Q E → SW (cxOf CX0 P w K mg base N qual scope f cdv B envs z G E).nox { nx := fun _ H' => Q .non H', rt := Q } body (start N vs) G) : FnG P w K mg base (k + 1) f fd ps sp := by
  obtain ⟨oc, od, dV, kV, doc, pm, an, cdv, ct, osl, rfl, lk, hcd, _, _⟩ := F.ex
  refine ⟨len, fun B envs z G as us vs Q E hg hr e0 hbind rv hsp => ?_⟩
  have hl : vs.length = ps.length := len _ _ _ _ hsp
  have stands : ∀ b o, base.get? b = some o → z.heap.get? b = some o := fun b o e => (e0.bs b o e).1
  have inK : K.In z.heap := e0.mod.kin.keeps stands
  have lims : z.heap.NoLimit := e0.mod.nolimit.keeps stands
  refine codeAny_call_function hr.depth (inK _ _ lk) rfl S.co S.gen rfl (PySem.W.codeRec_of inK hcd) (hbind _ _ _ _ (wpAny_newFunctionEnv_cells S.kind (fun ⟨n, u⟩ hy => ?_) fun env henv z1 hx => ?_))
  · exact (S.par n (List.of_mem_zip hy).1).elim .inl fun q => .inr ⟨q, PySem.W.cellsFrom_some _ _ _ (.inl q)⟩
  · subst henv
    refine ⟨lims.keeps hx.toInCall.keep, codeAny_func ?_⟩
    have J : Inv (cxOf CX0 P w K mg base N qual scope f cdv B envs z G E) [] (start N vs) G z1 := inv_start S hr.hd e0 hl rv hx
    refine wpAny_mono ((PSs.nox (pss_SW (sts := body))).run [] z1 (start N vs) G _ J (hb cdv B envs z G vs Q E hg (hr.deeper _) hsp)) (fun fl z' hs => ?_) fun _ _ hs => hs
    cases fl with
    | ret u => obtain ⟨v, σ', H', I, r, q⟩ := hs; exact ⟨v, H', I.os, I.bare, I.base, I.hok, r, q⟩
    | next => obtain ⟨σ', H', I, q⟩ := hs; exact ⟨.non, H', I.os, I.bare, I.base, I.hok, rfl, q⟩
    | brk => obtain ⟨_, _, _, q⟩ := hs; exact q.elim
    | cont => obtain ⟨_, _, _, q⟩ := hs; exact q.elim
end
/-- a promise that holds where no guard is set -/
structure ClG (P : Program) (w : World) (K : PySem.W.Frag) (mg : Str → Option Value) (base : Heap) (x : Str) (k : Nat) (ps : List Str) (sp : Sp) : Prop where
  okG : ∃ f fd, FnG P w K mg base k f fd ps sp ∧ mg x = some (.ref f) ∧ PySem.W.keepIn K (.ref f) = true ∧ Binds K fd ps []
section
variable {X : Cx} {e : Expr} {es : List Expr} {x : Str} {p pos : Pos} {k : Nat} {ps : List Str} {sp : Sp} {t : TA}
theorem pe_callG (C : ClG X.prog X.w X.K X.mg X.base x k ps sp) (hgu : X.A.guards = some []) (hr : Room k X.A) (ha : PA X (e :: es) t) (hg : Gl X x := by rfl) (hdb : (x == ("__debug__" : Str)) = false := by decide) (he : starEach (e :: es) X.env = (false, eval e X.env) :: starEach es X.env := by rfl)
    (hpl : (backTo pos (starEach es X.env)).any (·.1) = false := by rfl) : PE X (.Call (.Name x p) (e :: es) [] pos) (fun σ H Q => t σ H fun vs H1 => sp vs H1 Q E0) := by
  obtain ⟨f, fd, F, hm, hk, hb⟩ := C.okG
  refine ⟨fun pins s σ H Q I h => wpAny_Call_Name_kw (ld_glob I hg hm ?_ hdb)⟩
  refine PySem.W.callWith_K (h₀ := X.base) I.ok.mod.kin hk (thn (ha.run pos pins s σ H _ I h) fun us s1 ⟨vs, H1, I1, rv, q⟩ => ⟨I1.kIn, ?_⟩) he hpl
  have hl : us.length = ps.length := by rw [← rv.length]; exact F.lenG _ _ _ _ q
  have hB := hb s1 us I1.kIn (by rw [List.append_nil]; exact hl)
  rw [List.append_nil] at hB
  refine wpAny_call (codeAny_mono (F.runG X.A X.stack s1 H1 ⟨us, []⟩ us vs Q E0 hgu hr I1.env0 hB rv q) fun r s' hq => ?_)
  cases r with
  | error u => exact pass0 pins σ H1 s1 u s' I1 hq
  | ok fl => cases fl with
    | ret u => exact I1.after hq
    | next => exact False.elim hq
    | brk => exact False.elim hq
    | cont => exact False.elim hq
end
/-- the law's call where the caller has no guards set -/
theorem lawG {P : Program} {w : World} {K : PySem.W.Frag} {mg mb : Str → Option Value} {k : Nat} {fa a : Addr} {fd : FuncData} {x : Str} {sp : Sp} {z : Shared} {its : List Value} {ns : List Int} (inK : K.In z.heap) (gl : z.heap.Ns mainGlobals mg) (bi : z.heap.Ns builtinsNs mb) (boot : ∀ y : Str, y ≠ "__name__" → mb y = bootBuiltins y) (lims : z.heap.NoLimit) (nog : z.gens = #[])
    (ha : z.heap.get? a = some { cls := .type "list", data := .seq its.toArray }) (hi : IntsAre its ns) (hl : ns.length ≤ sizeLine) (hr : Room k callerA) (F : ∀ base : Heap, K.In base → base.Ns mainGlobals mg → FnG P w K mg base k fa fd [x] sp) (hbind : ∀ (y : Shared) (u : Value), BindsTo y fd ⟨[u], []⟩ [(x, u)])
    (hsp : ∀ H : Hp, Only H → SqL K H a (ns.map V.int) → sp [.ref a] H (fun v _ => v = .bl true) fun _ _ _ => False) : codeAny (model P w) callerA (.call (.ref fa) ⟨[.ref a], []⟩) (fun r y => r = .ok (.ret (.bool true)) ∧ OldK z.heap y.heap ∧ y.os = z.os ∧ AllBare y.gens) z := by
  have rv := vals_ints hi
  have lenV := hi.length
  have run : ∀ H : Hp, Only H → SqL K H a (ns.map V.int) → HOk P w H z.heap → (∀ b, H b ≠ none → b = a ∧ K.lookup a = none) → codeAny (model P w) callerA (.call (.ref fa) ⟨[.ref a], []⟩) (fun r y => r = .ok (.ret (.bool true)) ∧ OldK z.heap y.heap ∧ y.os = z.os ∧ AllBare y.gens) z := by
    intro H hO hS hok hA
    have free : ∀ {b : Addr} {o : Obj}, z.heap.get? b = some o → (b = a → K.lookup a = none → False) → H b = none := fun {b o} e h => by
      cases q : H b with
      | none => rfl
      | some u => exact (h (hA b (by rw [q]; simp)).1 (hA b (by rw [q]; simp)).2).elim
    have nsT : ∀ {b : Addr} {m : Str → Option Value}, z.heap.Ns b m → (hidT z.heap H).Ns b m := fun {b m} ⟨o, es, ep, e, d, r⟩ => ⟨o, es, ep, hidT_get e (free e fun q _ => by rw [q, ha] at e; cases e; cases (show Data.seq its.toArray _ = Data.dict es ep from d)), d, r⟩
    have inT : K.In (hidT z.heap H) := fun b o e => hidT_get (inK b o e) (free (inK b o e) fun q n => by rw [q, n] at e; cases e)
    have md : Mod K mg (hidT z.heap H) := ⟨inT, nsT gl, ⟨mb, nsT bi, boot⟩, lims.elim fun mc h => ⟨mc, nsT h.1, h.2⟩⟩
    have e0 : Env0 P w K mg (hidT z.heap H) callerA [] z H := ⟨rfl, md, fun b o e => of_hidT e, Nat.le_of_eq (hidT_size _ _), trivial, fun b hb => absurd (show b ∈ ([] : List Addr) from hb) (by simp), hok, .of_eq nog⟩
    refine codeAny_mono ((F _ inT (nsT gl)).runG callerA [] z H ⟨[.ref a], []⟩ [.ref a] [.ref a] _ _ rfl hr e0 (hbind z (.ref a)) (.cons rfl .nil) (hsp H hO hS)) fun r y h => ?_
    match r, h with
    | .error e, h => exact False.elim h
    | .ok .next, h => exact False.elim h
    | .ok .brk, h => exact False.elim h
    | .ok .cont, h => exact False.elim h
    | .ok (.ret u), h =>
      obtain ⟨v, H', os, bare, un, hok', r', rfl⟩ := h
      obtain rfl : u = Value.bool true := r'
      refine ⟨rfl, OldK.of_keep fun b o e => ?_, os, bare⟩
      rcases hO b with q | ⟨ob, xs, q⟩
      · exact un.keep b o e q (fun t => absurd (show b ∈ ([] : List Addr) from t) (by simp)) (by simp)
      · obtain ⟨e1, _⟩ := hok b _ q
        obtain ⟨e2, _⟩ := hok' b _ (un.frzs b ob _ q)
        rw [e] at e1; cases e1
        exact e2
  cases hk : K.lookup a with
  | some o =>
    have e := inK a o hk
    rw [ha] at e; cases e
    exact run (fun _ => none) (fun _ => .inl rfl) (.inr ⟨_, its.toArray, _, hk, rfl, rfl, rfl, by rw [List.size_toArray, lenV]; exact hl, by simpa using rv⟩) (fun _ _ q => nomatch q) fun _ q => absurd rfl q
  | none =>
    have at_ : ∀ b, (if b = a then some (HO.frz { cls := .type "list", data := .seq its.toArray } (.lst (ns.map V.int))) else none) = none ∨ b = a := fun b => by
      by_cases c : b = a
      · exact .inr c
      · exact .inl (if_neg c)
    refine run (fun b => if b = a then some (.frz { cls := .type "list", data := .seq its.toArray } (.lst (ns.map V.int))) else none) (fun b => (at_ b).imp id fun c => ⟨_, _, if_pos c⟩) (.inl (.inr ⟨{ cls := .type "list", data := .seq its.toArray }, if_pos rfl⟩)) (fun b u q => ?_) fun b q => ⟨(at_ b).resolve_left q, hk⟩
    have c : b = a := (at_ b).resolve_left fun n => by have q' := n.symm.trans q; cases q'
    subst c
    have q' := (if_pos rfl).symm.trans q
    cases q'
    exact ⟨ha, by rw [List.length_map]; exact hl, its, _, rv, ha⟩
theorem walkG {l : PySem.W.OpenLaw} {n k : Nat} {q : Program} {loose : List Str} {XP : (Str → Option Value) → Heap → Prop} {YP : World → Heap → Prop} {d : DefRec} {K : Params → PySem.W.Frag} {sp : PySem.W.Frag → Sp} {x : Str} (hn : l.most = some n) (hn2 : n ≤ sizeLine) (hdf : d.params.defaults = []) (hr : Room k callerA) (hY : ∀ (w : World) (h : Heap), YP w h → (K w.params).In h)
    (F : ∀ (w : World) (mg : Str → Option Value) (fa : Addr) (h : Heap), (K w.params).In h → h.Ns mainGlobals mg → mg d.name = some (.ref fa) → ∃ fd : FuncData, (∀ (y : Shared) (u : Value), BindsTo y fd ⟨[u], []⟩ [(x, u)]) ∧ ∀ base : Heap, (K w.params).In base → base.Ns mainGlobals mg → FnG l.prog w (K w.params) mg base k fa fd [x] (sp (K w.params)))
    (hsp : ∀ (K : PySem.W.Frag) (H : Hp) (a : Addr) (ns : List Int), ns.length ≤ n → Only H → SqL K H a (ns.map V.int) → sp K [.ref a] H (fun v _ => v = .bl true) fun _ _ _ => False) : PySem.W.WalkO q loose XP YP l.row.toRowW d [] (fun f vs => PySem.call f vs) :=
  Att.attach_call hn hdf fun w _ z mg mb fa o pm cd doc a vs ns G Y ho hd hcd hmg hobj hints hlen hg => have inK := hY w _ Y
    have ⟨fd, hb, hF⟩ := F w mg fa _ inK G.T.g hmg
    lawG inK G.T.g G.T.b G.T.builtins G.T.nolimit hg hobj hints (Nat.le_trans hlen hn2) hr hF hb fun H hO hS => hsp _ H a ns hlen hO hS
end N34

set_option Elab.async false
set_option linter.all false
set_option maxRecDepth 100000
/-! plain: what a valid book is, put side by side, in another order -/
namespace N34
open PySem
theorem perm_sum {l m : List Int} (h : l.Perm m) : l.sum = m.sum := by
  induction h with
  | nil => rfl
  | cons a _ ih => rw [List.sum_cons, List.sum_cons, ih]
  | swap a b l => simp only [List.sum_cons]; omega
  | trans _ _ h1 h2 => exact h1.trans h2
theorem sum_app (l m : List Int) : (l ++ m).sum = l.sum + m.sum := by
  induction l with
  | nil => simp
  | cons a l ih => rw [List.cons_append, List.sum_cons, List.sum_cons, ih]; omega
abbrev rangeL (k : Nat) : List Int := (List.range k).map fun j : Nat => ((j : Nat) : Int)
theorem cut_eq {lot b : List Int} : cut lot b = lot.map fun j => vAt b j := by unfold cut; rfl
theorem vAt_get {b : List Int} {j : Nat} (h : j < b.length) : vAt b (j : Nat) = b[j] := by
  unfold vAt
  simp [h]
theorem cut_range {k : Nat} {b : List Int} (h : b.length = k) : cut (rangeL k) b = b := by
  rw [cut_eq]
  refine List.ext_getElem (by simp [h]) fun i h1 h2 => ?_
  simp only [List.getElem_map, List.getElem_range]
  exact vAt_get h2
theorem rangeL_mem {k : Nat} {j : Int} : j ∈ rangeL k ↔ 0 ≤ j ∧ j < k := by
  constructor
  · intro h
    obtain ⟨n, hn, rfl⟩ := List.mem_map.mp h
    have := List.mem_range.mp hn
    omega
  · intro ⟨h1, h2⟩
    exact List.mem_map.mpr ⟨j.toNat, List.mem_range.mpr (by omega), by omega⟩
theorem vAt_nn {b : List Int} (h : ∀ x ∈ b, 0 ≤ x) (j : Int) : 0 ≤ vAt b j := by
  unfold vAt
  cases c : b[j.toNat]? with
  | none => simp
  | some x => exact h x (List.mem_of_getElem? c)
theorem ext_vAt {k : Nat} {b c : List Int} (hb : b.length = k) (hc : c.length = k) (h : ∀ j : Int, 0 ≤ j → j < k → vAt b j = vAt c j) : b = c := by
  rw [← cut_range hb, ← cut_range hc, cut_eq, cut_eq]
  refine List.map_congr_left fun j hj => ?_
  obtain ⟨h1, h2⟩ := rangeL_mem.mp hj
  exact h j h1 h2
theorem vb_first {k : Nat} {B : List (List Int)} (h : DbOk k B) (h1 : 1 ≤ k) (h2 : k ≤ 2) : VB k ((B.filter fun b => decide (b.sum < 5)).take 4) ∧ ((B.filter fun b => decide (b.sum < 5)).take 4).length ≤ 4 := by
  have hl : ((B.filter fun b => decide (b.sum < 5)).take 4).length ≤ 4 := by rw [List.length_take]; omega
  have hm : ∀ b ∈ (B.filter fun b => decide (b.sum < 5)).take 4, b ∈ B ∧ b.sum < 5 := fun b hb => by
    have := List.mem_filter.mp (List.mem_of_mem_take hb)
    exact ⟨this.1, by simpa using this.2⟩
  exact ⟨⟨by omega, by omega, by omega, fun b hb => (h.cr b (hm b hb).1).len, fun b hb => (h.cr b (hm b hb).1).nn, fun b hb => h.ps b (hm b hb).1, h.nd.sublist ((List.take_sublist _ _).trans List.filter_sublist), by omega, fun b hb => by have := (hm b hb).2; omega, by omega⟩, hl⟩
/-- the two books and what is made of them -/
structure TwoB (k1 k2 : Nat) (f1 f2 : List (List Int)) : Prop where
  v1 : VB k1 f1
  v2 : VB k2 f2
  a1 : k1 ≤ 2
  a2 : k2 ≤ 2
  l1 : f1.length ≤ 4
  l2 : f2.length ≤ 4
theorem zer_len {k : Nat} : (zer k).length = k := zer_cr.len
theorem beside_mem {k1 k2 : Nat} {f1 f2 : List (List Int)} {b : List Int} : b ∈ besideM ((k1, f1), (k2, f2)) ↔ (∃ c ∈ f1, b = c ++ zer k2) ∨ ∃ c ∈ f2, b = zer k1 ++ c := by
  unfold besideM
  rw [List.mem_append, List.mem_map, List.mem_map]
  constructor
  · rintro (⟨c, h, e⟩ | ⟨c, h, e⟩)
    · exact .inl ⟨c, h, e.symm⟩
    · exact .inr ⟨c, h, e.symm⟩
  · rintro (⟨c, h, e⟩ | ⟨c, h, e⟩)
    · exact .inl ⟨c, h, e.symm⟩
    · exact .inr ⟨c, h, e.symm⟩
theorem nodup_map {α β : Type} {f : α → β} : ∀ {l : List α}, l.Nodup → (∀ a ∈ l, ∀ b ∈ l, f a = f b → a = b) → (l.map f).Nodup
  | [], _, _ => List.nodup_nil
  | a :: l, hn, hi => by
    obtain ⟨h1, h2⟩ := List.nodup_cons.mp hn
    refine List.nodup_cons.mpr ⟨fun h => ?_, nodup_map h2 fun x hx y hy => hi x (List.mem_cons_of_mem _ hx) y (List.mem_cons_of_mem _ hy)⟩
    obtain ⟨b, hb, e⟩ := List.mem_map.mp h
    have := hi b (List.mem_cons_of_mem _ hb) a List.mem_cons_self e
    exact h1 (this ▸ hb)
theorem vb_beside {k1 k2 : Nat} {f1 f2 : List (List Int)} (t : TwoB k1 k2 f1 f2) : VB (k1 + k2) (besideM ((k1, f1), (k2, f2))) := by
  obtain ⟨v1, v2, a1, a2, l1, l2⟩ := t
  have p1 := v1.pos
  have p2 := v2.pos
  refine ⟨by omega, by omega, by omega, fun b hb => ?_, fun b hb => ?_, fun b hb => ?_, ?_, ?_, fun b hb => ?_, by omega⟩
  · rcases beside_mem.mp hb with ⟨c, hc, rfl⟩ | ⟨c, hc, rfl⟩
    · rw [List.length_append, zer_len, v1.len c hc]
    · rw [List.length_append, zer_len, v2.len c hc]
  · intro x hx
    rcases beside_mem.mp hb with ⟨c, hc, rfl⟩ | ⟨c, hc, rfl⟩
    · rcases List.mem_append.mp hx with z | z
      · exact v1.nn c hc x z
      · exact zer_cr.nn x z
    · rcases List.mem_append.mp hx with z | z
      · exact zer_cr.nn x z
      · exact v2.nn c hc x z
  · rcases beside_mem.mp hb with ⟨c, hc, rfl⟩ | ⟨c, hc, rfl⟩
    · rw [sum_app, zer_sum]; have := v1.ps c hc; omega
    · rw [sum_app, zer_sum]; have := v2.ps c hc; omega
  · unfold besideM
    refine List.nodup_append.mpr ⟨nodup_map v1.nd fun a _ b _ e => List.append_cancel_right e, nodup_map v2.nd fun a _ b _ e => List.append_cancel_left e, fun a ha b hb e => ?_⟩
    obtain ⟨c, hc, rfl⟩ := List.mem_map.mp ha
    obtain ⟨d, hd, rfl⟩ := List.mem_map.mp hb
    have e' : c ++ zer k2 = zer k1 ++ d := e
    have h1 := List.append_inj_left e' (by rw [v1.len c hc, zer_len])
    have h2 := v1.ps c hc
    rw [h1, zer_sum] at h2
    omega
  · unfold besideM
    rw [List.length_append, List.length_map, List.length_map]
    show f1.length + f2.length ≤ 8
    omega
  · rcases beside_mem.mp hb with ⟨c, hc, rfl⟩ | ⟨c, hc, rfl⟩
    · rw [sum_app, zer_sum]; have := v1.sm c hc; omega
    · rw [sum_app, zer_sum]; have := v2.sm c hc; omega
theorem vsort_congr {l m : List (List Int)} (h : l.Perm m) : vsort l = vsort m := vsort_uniq ((vsort_perm l).trans h) (vsort_pw l)
theorem beside_vs {k1 k2 : Nat} {f1 f2 : List (List Int)} : vsort (besideM ((k1, vsort f1), (k2, vsort f2))) = vsort (besideM ((k1, f1), (k2, f2))) := by
  refine vsort_congr ?_
  unfold besideM
  exact ((vsort_perm f1).map _).append ((vsort_perm f2).map _)
theorem VB.perm {k : Nat} {B B' : List (List Int)} (vb : VB k B) (h : B.Perm B') : VB k B' :=
  ⟨vb.pos, vb.le, vb.le2, fun b hb => vb.len b (h.mem_iff.mpr hb), fun b hb => vb.nn b (h.mem_iff.mpr hb), fun b hb => vb.ps b (h.mem_iff.mpr hb), h.nodup_iff.mp vb.nd, by rw [← h.length_eq]; exact vb.few, fun b hb => vb.sm b (h.mem_iff.mpr hb), vb.le4⟩
theorem VB.vs {k : Nat} {B : List (List Int)} (vb : VB k B) : VB k (vsort B) := vb.perm (vsort_perm B).symm
theorem cut_sum {k : Nat} {ord b : List Int} (hp : ord.Perm (rangeL k)) (hb : b.length = k) : (cut ord b).sum = b.sum := by
  have := perm_sum (hp.map fun j => vAt b j)
  rw [← cut_eq, ← cut_eq, cut_range hb] at this
  exact this
theorem cut_inj {lot b c : List Int} (h : cut lot b = cut lot c) : ∀ j ∈ lot, vAt b j = vAt c j := by
  rw [cut_eq, cut_eq] at h
  exact fun j hj => List.map_inj_left.mp h j hj
theorem vb_cut0 {k : Nat} {R : List (List Int)} {ord : List Int} (vb : VB k R) (hp : ord.Perm (rangeL k)) : VB k (R.map (cut ord)) := by
  have hl : ord.length = k := by rw [hp.length_eq]; simp
  refine ⟨vb.pos, vb.le, vb.le2, fun b hb => ?_, fun b hb x hx => ?_, fun b hb => ?_, nodup_map vb.nd fun a ha b hb e => ?_, by rw [List.length_map]; exact vb.few, fun b hb => ?_, vb.le4⟩
  · obtain ⟨c, hc, rfl⟩ := List.mem_map.mp hb
    rw [cut_eq, List.length_map, hl]
  · obtain ⟨c, hc, rfl⟩ := List.mem_map.mp hb
    rw [cut_eq] at hx
    obtain ⟨j, _, rfl⟩ := List.mem_map.mp hx
    exact vAt_nn (vb.nn c hc) j
  · obtain ⟨c, hc, rfl⟩ := List.mem_map.mp hb
    rw [cut_sum hp (vb.len c hc)]; exact vb.ps c hc
  · exact ext_vAt (vb.len a ha) (vb.len b hb) fun j h1 h2 => cut_inj e j (hp.symm.subset (rangeL_mem.mpr ⟨h1, h2⟩))
  · obtain ⟨c, hc, rfl⟩ := List.mem_map.mp hb
    rw [cut_sum hp (vb.len c hc)]; exact vb.sm c hc
theorem vb_cut {k : Nat} {R : List (List Int)} {ord : List Int} (vb : VB k R) (hp : ord.Perm (rangeL k)) : VB k (vsort (R.map (cut ord))) := (vb_cut0 vb hp).vs
end N34

set_option Elab.async false
set_option linter.all false
set_option maxRecDepth 100000
/-! plain: the labels of the law's lots -/
namespace N34
open PySem
/-- tied by batches, through others -/
inductive Cn (k : Nat) (B : List (List Int)) : Int → Int → Prop
  | base {b : List Int} {i j : Int} : b ∈ B → (0 ≤ i ∧ i < k) → (0 ≤ j ∧ j < k) → 0 < vAt b i → 0 < vAt b j → Cn k B i j
  | refl (i : Int) : Cn k B i i
  | symm {i j : Int} : Cn k B i j → Cn k B j i
  | trans {i j l : Int} : Cn k B i j → Cn k B j l → Cn k B i l
section
variable {k : Nat} {B : List (List Int)} {i j m : Int} {l b : List Int}
theorem Cn.rg (h : Cn k B i j) : i = j ∨ ((0 ≤ i ∧ i < k) ∧ (0 ≤ j ∧ j < k)) := by
  induction h with
  | base _ h1 h2 _ _ => exact .inr ⟨h1, h2⟩
  | refl => exact .inl rfl
  | symm _ ih => exact ih.elim (fun e => .inl e.symm) fun h => .inr ⟨h.2, h.1⟩
  | trans _ _ h1 h2 =>
    rcases h1 with e | ⟨a, b⟩
    · subst e; exact h2
    · rcases h2 with e | ⟨c, d⟩
      · subst e; exact .inr ⟨a, b⟩
      · exact .inr ⟨a, d⟩
theorem Cn.inr (h : Cn k B i j) (hi : 0 ≤ i ∧ i < k) : 0 ≤ j ∧ j < k := h.rg.elim (fun e => e ▸ hi) fun h => h.2
theorem Cn.lift {P : Int → Prop} (hP : ∀ b ∈ B, ∀ u v : Int, (0 ≤ u ∧ u < k) → (0 ≤ v ∧ v < k) → 0 < vAt b u → 0 < vAt b v → P u → P v) (h : Cn k B i j) : P i ↔ P j := by
  induction h with
  | base hb h1 h2 h3 h4 => exact ⟨hP _ hb _ _ h1 h2 h3 h4, hP _ hb _ _ h2 h1 h4 h3⟩
  | refl => exact Iff.rfl
  | symm _ ih => exact ih.symm
  | trans _ _ h1 h2 => exact h1.trans h2
theorem ex_min : ∀ (n : Nat) (m : Int), 0 ≤ m → m ≤ n → m < k → ∃ m0 : Int, (0 ≤ m0 ∧ m0 < k) ∧ Cn k B m m0 ∧ ∀ j, Cn k B m0 j → m0 ≤ j
  | 0, m, h0, h1, h2 => ⟨m, ⟨h0, h2⟩, .refl m, fun j hj => by have := hj.inr ⟨h0, h2⟩; omega⟩
  | n + 1, m, h0, h1, h2 => by
    by_cases h : ∃ j, Cn k B m j ∧ j < m
    · obtain ⟨j, hj, hlt⟩ := h
      have hr := hj.inr ⟨h0, h2⟩
      obtain ⟨m0, a, b, c⟩ := ex_min n j hr.1 (by omega) hr.2
      exact ⟨m0, a, hj.trans b, c⟩
    · exact ⟨m, ⟨h0, h2⟩, .refl m, fun j hj => Int.not_lt.mp fun z => h ⟨j, hj, z⟩⟩
/-! what a turn does -/
theorem vAt_set {n : Nat} {v : Int} (hi : 0 ≤ i) (hn : n < l.length) : vAt (l.set n v) i = if i = n then v else vAt l i := by
  unfold vAt
  by_cases e : i = n
  · rw [if_pos e, e]
    simp [hn]
  · rw [if_neg e, List.getElem?_set_ne (by omega)]
theorem lowSet_at {low : Int} (hi : 0 ≤ i) : ∀ (pre : List Nat) (l : List Int), (∀ n ∈ pre, n < l.length) → vAt (pre.foldl (lowSet low b) l) i = if (∃ n ∈ pre, i = (n : Nat)) then (if 0 < vAt b i then low else vAt l i) else vAt l i
  | [], l, _ => by rw [if_neg (by simp)]; rfl
  | n :: pre, l, h => by
    have hn := h n List.mem_cons_self
    have e : vAt (lowSet low b l n) i = if i = n then (if 0 < vAt b i then low else vAt l i) else vAt l i := by
      unfold lowSet
      rw [vAt_set hi hn]
      by_cases c : i = n
      · rw [if_pos c, if_pos c, c]
      · rw [if_neg c, if_neg c]
    rw [List.foldl_cons, lowSet_at hi pre _ (fun q hq => by unfold lowSet; rw [List.length_set]; exact h q (List.mem_cons_of_mem _ hq)), e]
    have hx : (∃ q ∈ n :: pre, i = (q : Nat)) ↔ (i = n ∨ ∃ q ∈ pre, i = (q : Nat)) := by
      constructor
      · rintro ⟨q, hq, e⟩
        rcases List.mem_cons.mp hq with z | z
        · exact .inl (by rw [e, z])
        · exact .inr ⟨q, z, e⟩
      · rintro (e | ⟨q, hq, e⟩)
        · exact ⟨n, List.mem_cons_self, e⟩
        · exact ⟨q, List.mem_cons_of_mem _ hq, e⟩
    have three : ∀ (P Q R S : Prop) [Decidable P] [Decidable Q] [Decidable R] [Decidable S] (x y : Int), (R ↔ (P ∨ Q)) → (if Q then (if S then x else if P then (if S then x else y) else y) else if P then (if S then x else y) else y) = if R then (if S then x else y) else y := by
      intro P Q R S _ _ _ _ x y h
      by_cases p : P <;> by_cases q : Q <;> by_cases s : S <;> by_cases r : R <;> simp_all
    exact three (i = n) (∃ q ∈ pre, i = (q : Nat)) _ (0 < vAt b i) low (vAt l i) hx
theorem lotB_at (h : LtI k l) (hi : 0 ≤ i ∧ i < k) : vAt (lotB k l b) i = if 0 < vAt b i then lowM l k b else vAt l i := by
  unfold lotB
  rw [lowSet_at hi.1 _ _ (fun n hn => by rw [h.len]; exact List.mem_range.mp hn), if_pos ⟨i.toNat, List.mem_range.mpr (by omega), by omega⟩]
theorem low_spec {l : List Int} (hb : ∃ j : Int, (0 ≤ j ∧ j < k) ∧ 0 < vAt b j) : (∃ u : Int, (0 ≤ u ∧ u < k) ∧ 0 < vAt b u ∧ lowM l k b = vAt l u) ∧ ∀ v : Int, (0 ≤ v ∧ v < k) → 0 < vAt b v → lowM l k b ≤ vAt l v := by
  have e : lowM l k b = minI (((List.range k).filter fun j : Nat => decide (0 < vAt b (j : Nat))).map fun j : Nat => vAt l (j : Nat)) := by unfold lowM; rfl
  obtain ⟨h1, h2⟩ := minI_spec (low_list hb l)
  rw [e]
  constructor
  · obtain ⟨n, hn, e⟩ := List.mem_map.mp h1
    obtain ⟨h3, h4⟩ := List.mem_filter.mp hn
    have := List.mem_range.mp h3
    exact ⟨n, ⟨by omega, by omega⟩, by simpa using h4, e.symm⟩
  · intro v hv hp
    refine h2 _ (List.mem_map.mpr ⟨v.toNat, List.mem_filter.mpr ⟨List.mem_range.mpr (by omega), ?_⟩, ?_⟩)
    · rw [Int.toNat_of_nonneg hv.1]; simpa using hp
    · rw [Int.toNat_of_nonneg hv.1]
structure LI (k : Nat) (B : List (List Int)) (l : List Int) : Prop where
  lt : LtI k l
  le : ∀ i : Int, (0 ≤ i ∧ i < k) → vAt l i ≤ i ∧ Cn k B i (vAt l i)
theorem LI.lotB (vb : VB k B) (h : LI k B l) (hb : b ∈ B) : LI k B (lotB k l b) := by
  refine ⟨lotB_ok h.lt (vb.some b hb), fun i hi => ?_⟩
  rw [lotB_at h.lt hi]
  obtain ⟨⟨u, hu, hp, e⟩, h2⟩ := low_spec (l := l) (vb.some b hb)
  by_cases c : 0 < vAt b i
  · rw [if_pos c]
    have h3 := h2 i hi c
    have h4 := (h.le i hi).1
    refine ⟨by omega, ?_⟩
    rw [e]
    exact (Cn.base hb hi hu c hp).trans (h.le u hu).2
  · rw [if_neg c]; exact h.le i hi
theorem LI.foldB (vb : VB k B) : ∀ (pre : List (List Int)) {l : List Int}, (∀ b ∈ pre, b ∈ B) → LI k B l → LI k B (pre.foldl (N34.lotB k) l)
  | [], _, _, h => h
  | b :: pre, _, hp, h => LI.foldB vb pre (fun c hc => hp c (List.mem_cons_of_mem _ hc)) (h.lotB vb (hp b List.mem_cons_self))
theorem vAt_map {f : Int → Int} (h : l.length = k) (hi : 0 ≤ i ∧ i < k) : vAt (l.map f) i = f (vAt l i) := by
  unfold vAt
  rw [List.getElem?_map, List.getElem?_eq_getElem (by omega)]; rfl
theorem LI.jump (h : LI k B l) : LI k B (l.map fun j => vAt l j) := by
  refine ⟨jump_ok h.lt, fun i hi => ?_⟩
  rw [vAt_map h.lt.len hi]
  have h1 := h.le i hi
  have h2 := h.le _ (vAt_lt h.lt hi)
  exact ⟨by omega, h1.2.trans h2.2⟩
theorem LI.turn (vb : VB k B) (h : LI k B l) (t : Nat) : LI k B (lotTurn k B l t) := by
  rw [lotTurn_def]; exact (h.foldB vb B fun _ h => h).jump
theorem LI.zero : LI k B (rangeL k) := ⟨lt0 k, fun i hi => by
  have : vAt (rangeL k) i = i := by
    unfold vAt rangeL
    rw [List.getElem?_map, List.getElem?_range (by omega)]
    simp; omega
  rw [this]; exact ⟨Int.le_refl _, .refl i⟩⟩
/-- the least of a class -/
structure Mn (k : Nat) (B : List (List Int)) (m : Int) : Prop where
  rg : 0 ≤ m ∧ m < k
  le : ∀ j, Cn k B m j → m ≤ j
theorem Mn.own (hm : Mn k B m) (h : LI k B l) : vAt l m = m := by
  have h1 := h.le m hm.rg
  have h2 := hm.le _ h1.2
  omega
theorem Mn.low (hm : Mn k B m) (vb : VB k B) (h : LI k B l) (hb : b ∈ B) {u : Int} (hu : 0 ≤ u ∧ u < k) (hp : 0 < vAt b u) (e : vAt l u = m) : lowM l k b = m := by
  obtain ⟨⟨v, hv, hq, e2⟩, h2⟩ := low_spec (l := l) (vb.some b hb)
  have h3 := h2 u hu hp
  have h4 : Cn k B m (lowM l k b) := by
    rw [e2]
    refine Cn.trans (j := u) ?_ ((Cn.base hb hu hv hp hq).trans (h.le v hv).2)
    have := (h.le u hu).2
    rw [e] at this; exact this.symm
  have := hm.le _ h4
  omega
theorem Mn.keepB (hm : Mn k B m) (vb : VB k B) (h : LI k B l) (hb : b ∈ B) (hi : 0 ≤ i ∧ i < k) (e : vAt l i = m) : vAt (lotB k l b) i = m := by
  rw [lotB_at h.lt hi]
  by_cases c : 0 < vAt b i
  · rw [if_pos c]; exact hm.low vb h hb hi c e
  · rw [if_neg c]; exact e
theorem Mn.keepF (hm : Mn k B m) (vb : VB k B) (hi : 0 ≤ i ∧ i < k) : ∀ (pre : List (List Int)) {l : List Int}, (∀ b ∈ pre, b ∈ B) → LI k B l → vAt l i = m → vAt (pre.foldl (lotB k) l) i = m
  | [], _, _, _, e => e
  | b :: pre, _, hp, h, e => hm.keepF vb hi pre (fun c hc => hp c (List.mem_cons_of_mem _ hc)) (h.lotB vb (hp b List.mem_cons_self)) (hm.keepB vb h (hp b List.mem_cons_self) hi e)
theorem Mn.jump (hm : Mn k B m) (h : LI k B l) (hi : 0 ≤ i ∧ i < k) (e : vAt l i = m) : vAt (l.map fun j => vAt l j) i = m := by
  rw [vAt_map h.lt.len hi, e]; exact hm.own h
theorem Mn.keep (hm : Mn k B m) (vb : VB k B) (h : LI k B l) (t : Nat) (hi : 0 ≤ i ∧ i < k) (e : vAt l i = m) : vAt (lotTurn k B l t) i = m := by
  rw [lotTurn_def]
  exact hm.jump (h.foldB vb B fun _ h => h) hi (hm.keepF vb hi B (fun _ h => h) h e)
theorem Mn.ext (hm : Mn k B m) (vb : VB k B) (h : LI k B l) (t : Nat) (hb : b ∈ B) {u v : Int} (hu : 0 ≤ u ∧ u < k) (hv : 0 ≤ v ∧ v < k) (h1 : 0 < vAt b u) (h2 : 0 < vAt b v) (e : vAt l u = m) : vAt (lotTurn k B l t) v = m := by
  rw [lotTurn_def]
  refine hm.jump (h.foldB vb B fun _ h => h) hv ?_
  obtain ⟨p, q, hpq⟩ := List.append_of_mem hb
  have hp : ∀ c ∈ p, c ∈ B := fun c hc => by rw [hpq]; simp [hc]
  have hq : ∀ c ∈ q, c ∈ B := fun c hc => by rw [hpq]; simp [hc]
  rw [hpq, List.foldl_append, List.foldl_cons]
  have g1 := LI.foldB vb p hp h
  have e1 := hm.keepF vb hu p hp h e
  refine hm.keepF vb hv q hq (g1.lotB vb hb) ?_
  rw [lotB_at g1.lt hv, if_pos h2]
  exact hm.low vb g1 hb hu h1 e1
theorem filter_lt {α : Type} {p q : α → Bool} : ∀ {l : List α}, (∀ a ∈ l, p a = true → q a = true) → (∃ a ∈ l, q a = true ∧ p a = false) → (l.filter p).length < (l.filter q).length
  | [], _, ⟨_, h, _⟩ => nomatch h
  | a :: l, h, ⟨v, hv, hq, hp⟩ => by
    have mono : (l.filter p).length ≤ (l.filter q).length := by
      have : ∀ m : List α, (∀ a ∈ m, p a = true → q a = true) → (m.filter p).length ≤ (m.filter q).length := by
        intro m
        induction m with
        | nil => intro _; simp
        | cons b m ih =>
          intro hm
          have := ih fun c hc => hm c (List.mem_cons_of_mem _ hc)
          rw [List.filter_cons, List.filter_cons]
          cases hb : p b with
          | true => rw [hm b List.mem_cons_self hb]; simp; exact this
          | false => cases q b <;> simp <;> omega
      exact this l fun c hc => h c (List.mem_cons_of_mem _ hc)
    rw [List.filter_cons, List.filter_cons]
    rcases List.mem_cons.mp hv with e | hv
    · subst e
      rw [hq, hp]; simp; omega
    · have ih := filter_lt (fun c hc => h c (List.mem_cons_of_mem _ hc)) ⟨v, hv, hq, hp⟩
      cases ha : p a with
      | true => rw [h a List.mem_cons_self ha]; simp; exact ih
      | false => cases q a <;> simp <;> omega
def cntM (k : Nat) (m : Int) (l : List Int) : Nat := ((List.range k).filter fun j : Nat => decide (vAt l (j : Nat) = m)).length
theorem Mn.grow (hm : Mn k B m) (vb : VB k B) (h : LI k B l) (t : Nat) : (∀ i, Cn k B m i → vAt l i = m) ∨ cntM k m l < cntM k m (lotTurn k B l t) := by
  by_cases hx : ∀ b ∈ B, ∀ u v : Int, (0 ≤ u ∧ u < k) → (0 ≤ v ∧ v < k) → 0 < vAt b u → 0 < vAt b v → vAt l u = m → vAt l v = m
  · exact .inl fun i hi => (Cn.lift (P := fun i => vAt l i = m) hx hi).mp (hm.own h)
  · refine .inr (filter_lt (fun j hj e => ?_) ?_)
    · have := List.mem_range.mp hj
      exact decide_eq_true (hm.keep vb h t ⟨by omega, by omega⟩ (of_decide_eq_true e))
    · refine Classical.byContradiction fun hno => hx fun b hb u v hu hv h1 h2 e => Classical.byContradiction fun hne => hno ⟨v.toNat, List.mem_range.mpr (by omega), ?_, ?_⟩
      · rw [Int.toNat_of_nonneg hv.1]; exact decide_eq_true (hm.ext vb h t hb hu hv h1 h2 e)
      · rw [Int.toNat_of_nonneg hv.1]; exact decide_eq_false hne
theorem Mn.turns (hm : Mn k B m) (vb : VB k B) : ∀ (pre : List Nat) {l : List Int} {c : Nat}, LI k B l → ((∀ i, Cn k B m i → vAt l i = m) ∨ c ≤ cntM k m l) → LI k B (pre.foldl (lotTurn k B) l) ∧ ((∀ i, Cn k B m i → vAt (pre.foldl (lotTurn k B) l) i = m) ∨ c + pre.length ≤ cntM k m (pre.foldl (lotTurn k B) l))
  | [], _, _, h, hc => ⟨h, hc⟩
  | t :: pre, l, c, h, hc => by
    have h2 : (∀ i, Cn k B m i → vAt (lotTurn k B l t) i = m) ∨ c + 1 ≤ cntM k m (lotTurn k B l t) := by
      rcases hc with hc | hc
      · exact .inl fun i hi => hm.keep vb h t (hi.inr hm.rg) (hc i hi)
      · rcases hm.grow vb h t with z | z
        · exact .inl fun i hi => hm.keep vb h t (hi.inr hm.rg) (z i hi)
        · exact .inr (by omega)
    obtain ⟨a, b⟩ := hm.turns vb pre (h.turn vb t) h2
    refine ⟨a, b.imp id fun z => ?_⟩
    rw [List.length_cons]; rw [List.foldl_cons]; omega
theorem labels_LI (vb : VB k B) : LI k B (labels k B) := by
  unfold labels
  have : ∀ (pre : List Nat) {l : List Int}, LI k B l → LI k B (pre.foldl (lotTurn k B) l) := by
    intro pre
    induction pre with
    | nil => exact fun h => h
    | cons t pre ih => exact fun h => ih (h.turn vb t)
  exact this _ LI.zero
theorem labels_min (vb : VB k B) (hm : Mn k B m) (h : Cn k B m i) : vAt (labels k B) i = m := by
  have e : labels k B = (List.range k).foldl (lotTurn k B) (rangeL k) := by unfold labels; rfl
  obtain ⟨_, h2⟩ := hm.turns vb (List.range k) (l := rangeL k) (c := 0) LI.zero (.inr (Nat.zero_le _))
  rw [e]
  rcases h2 with z | z
  · exact z i h
  · -- one more turn's worth: m itself is counted from the start
    obtain ⟨_, h3⟩ := hm.turns vb (List.range k) (l := rangeL k) (c := 1) LI.zero (.inr (by
      unfold cntM
      refine List.length_pos_of_mem (a := m.toNat) (List.mem_filter.mpr ⟨List.mem_range.mpr (by have := hm.rg; omega), ?_⟩)
      rw [Int.toNat_of_nonneg hm.rg.1]
      exact decide_eq_true (hm.own LI.zero)))
    rcases h3 with z | z
    · exact z i h
    · have h4 : cntM k m ((List.range k).foldl (lotTurn k B) (rangeL k)) ≤ k := by
        unfold cntM
        refine Nat.le_trans (List.length_filter_le _ _) ?_
        simp
      rw [List.length_range] at z
      omega
theorem labels_cn (vb : VB k B) (hi : 0 ≤ i ∧ i < k) (hj : 0 ≤ j ∧ j < k) : vAt (labels k B) i = vAt (labels k B) j ↔ Cn k B i j := by
  have g := labels_LI vb
  constructor
  · intro e
    have h1 := (g.le i hi).2
    rw [e] at h1
    exact h1.trans (g.le j hj).2.symm
  · intro h
    obtain ⟨m, hm1, hm2, hm3⟩ := ex_min (k := k) (B := B) k i hi.1 (by omega) hi.2
    have mn : Mn k B m := ⟨hm1, hm3⟩
    rw [labels_min vb mn hm2.symm, labels_min vb mn (hm2.symm.trans h)]
theorem labels_fix (vb : VB k B) (hi : 0 ≤ i ∧ i < k) : vAt (labels k B) (vAt (labels k B) i) = vAt (labels k B) i :=
  have g := labels_LI vb
  (labels_cn vb (vAt_lt g.lt hi) hi).mpr (g.le i hi).2.symm
end
end N34

set_option Elab.async false
set_option linter.all false
set_option maxRecDepth 100000
/-! plain: the lots of parts are the law's lots -/
namespace N34
open PySem
section
variable {k : Nat} {B L : List (List Int)} {i j m low : Int} {l b x : List Int}
theorem pst_mem : l ∈ partStep L b ↔ (l ∈ L ∧ l ∉ tiedM b L) ∨ l = (tiedM b L).flatten := by
  unfold partStep
  rw [List.mem_append, List.mem_filter, List.mem_singleton]
  simp
structure PI (k : Nat) (B pre L : List (List Int)) : Prop where
  ok : LotsOk k L
  con : ∀ l ∈ L, ∀ i ∈ l, ∀ j ∈ l, Cn k B i j
  cl : ∀ b ∈ pre, ∀ u v : Int, (0 ≤ u ∧ u < k) → (0 ≤ v ∧ v < k) → 0 < vAt b u → 0 < vAt b v → ∀ l ∈ L, u ∈ l → v ∈ l
theorem LotsOk.has (o : LotsOk k L) (h : 0 ≤ i ∧ i < k) : ∃ l ∈ L, i ∈ l := by
  have : i ∈ L.flatten := o.perm.symm.subset (rangeL_mem.mpr h)
  obtain ⟨l, h1, h2⟩ := List.mem_flatten.mp this
  exact ⟨l, h1, h2⟩
theorem PI.step {pre : List (List Int)} (vb : VB k B) (h : PI k B pre L) (hb : b ∈ B) : PI k B (pre ++ [b]) (partStep L b) := by
  refine ⟨partStep_ok h.ok (vb.some b hb), fun l hl i hi j hj => ?_, fun c hc u v hu hv h1 h2 l hl hul => ?_⟩
  · rcases pst_mem.mp hl with ⟨h1, _⟩ | rfl
    · exact h.con l h1 i hi j hj
    · obtain ⟨l1, a1, a2⟩ := List.mem_flatten.mp hi
      obtain ⟨l2, b1, b2⟩ := List.mem_flatten.mp hj
      obtain ⟨a3, u, hu, hpu⟩ := tied_mem.mp a1
      obtain ⟨b3, v, hv, hpv⟩ := tied_mem.mp b1
      exact ((h.con l1 a3 i a2 u hu).trans (.base hb (h.ok.lt l1 a3 u hu) (h.ok.lt l2 b3 v hv) hpu hpv)).trans (h.con l2 b3 v hv j b2)
  · rcases List.mem_append.mp hc with hc | hc
    · rcases pst_mem.mp hl with ⟨h3, _⟩ | rfl
      · exact h.cl c hc u v hu hv h1 h2 l h3 hul
      · obtain ⟨l1, a1, a2⟩ := List.mem_flatten.mp hul
        exact List.mem_flatten.mpr ⟨l1, a1, h.cl c hc u v hu hv h1 h2 l1 (tied_mem.mp a1).1 a2⟩
    · rw [List.mem_singleton.mp hc] at h1 h2
      rcases pst_mem.mp hl with ⟨h3, h4⟩ | rfl
      · exact absurd (tied_mem.mpr ⟨h3, u, hul, h1⟩) h4
      · obtain ⟨l2, b1, b2⟩ := h.ok.has hv
        exact List.mem_flatten.mpr ⟨l2, tied_mem.mpr ⟨b1, v, b2, h2⟩, b2⟩
theorem PI.fold (vb : VB k B) : ∀ (rest pre L : List (List Int)), (∀ b ∈ rest, b ∈ B) → PI k B pre L → PI k B (pre ++ rest) (rest.foldl partStep L)
  | [], pre, L, _, h => by rw [List.append_nil]; exact h
  | b :: rest, pre, L, hr, h => by
    have := PI.fold vb rest (pre ++ [b]) _ (fun c hc => hr c (List.mem_cons_of_mem _ hc)) (h.step vb (hr b List.mem_cons_self))
    rw [List.append_assoc] at this
    exact this
abbrev rawM (k : Nat) (B : List (List Int)) : List (List Int) := B.foldl partStep (lots0 k)
theorem raw_ok (vb : VB k B) : PI k B B (rawM k B) := by
  refine PI.fold vb B [] (lots0 k) (fun _ h => h) ⟨lots0_ok k, fun l hl i hi j hj => ?_, fun _ h => (nomatch h)⟩
  obtain ⟨n, _, rfl⟩ := List.mem_map.mp hl
  rw [List.mem_singleton.mp hi, List.mem_singleton.mp hj]
  exact .refl _
theorem PI.cls (vb : VB k B) (h : PI k B B L) (hl : l ∈ L) (hi : i ∈ l) : j ∈ l ↔ Cn k B i j :=
  ⟨fun hj => h.con l hl i hi j hj, fun hc => (Cn.lift (P := fun x => x ∈ l) (fun b hb u v hu hv h1 h2 => h.cl b hb u v hu hv h1 h2 l hl) hc).mp hi⟩
/-! the law's lots -/
abbrev lotAt (k : Nat) (B : List (List Int)) (low : Int) : List Int := ((List.range k).filter fun j : Nat => decide (vAt (labels k B) (j : Nat) = low)).map fun j : Nat => ((j : Nat) : Int)
theorem lotAt_mem : i ∈ lotAt k B low ↔ (0 ≤ i ∧ i < k) ∧ vAt (labels k B) i = low := by
  constructor
  · intro h
    obtain ⟨n, hn, rfl⟩ := List.mem_map.mp h
    obtain ⟨h1, h2⟩ := List.mem_filter.mp hn
    have := List.mem_range.mp h1
    exact ⟨⟨by omega, by omega⟩, of_decide_eq_true h2⟩
  · intro ⟨h1, h2⟩
    refine List.mem_map.mpr ⟨i.toNat, List.mem_filter.mpr ⟨List.mem_range.mpr (by omega), ?_⟩, by omega⟩
    rw [Int.toNat_of_nonneg h1.1]; exact decide_eq_true h2
theorem range_lt (k : Nat) : (List.range k).Pairwise (· < ·) := List.pairwise_lt_range
theorem lotAt_lt : (lotAt k B low).Pairwise (· < ·) := by
  rw [List.pairwise_map]
  exact ((range_lt k).filter _).imp fun h => by omega
theorem lt_nodup {l : List Int} (h : l.Pairwise (· < ·)) : l.Nodup := h.imp fun h => by omega
theorem lt_le {l : List Int} (h : l.Pairwise (· < ·)) : l.Pairwise (· ≤ ·) := h.imp fun h => by omega
abbrev lowsM (k : Nat) (B : List (List Int)) : List Int := isort (((labels k B).zipIdx.filter fun q => decide (q.1 = (q.2 : Int))).map fun q => q.1)
theorem lotsM_def : lotsM k B = (lowsM k B).map (lotAt k B) := by unfold lotsM; rfl
theorem isort_mem {l : List Int} {x : Int} : x ∈ isort l ↔ x ∈ l := (isort_perm l).mem_iff
theorem lows_mem (vb : VB k B) : low ∈ lowsM k B ↔ (0 ≤ low ∧ low < k) ∧ vAt (labels k B) low = low := by
  have hl := (labels_LI vb).lt.len
  rw [isort_mem]
  constructor
  · intro h
    obtain ⟨q, hq, rfl⟩ := List.mem_map.mp h
    obtain ⟨h1, h2⟩ := List.mem_filter.mp hq
    have h3 := of_decide_eq_true h2
    have h4 := zipIdx_lt h1
    have h5 := (zipIdx_mem h1).2
    refine ⟨⟨by omega, by omega⟩, ?_⟩
    unfold vAt
    rw [h3, Int.toNat_natCast, h5, ← h3]; rfl
  · intro ⟨h1, h2⟩
    have hg : (labels k B)[low.toNat]? = some low := by
      unfold vAt at h2
      rw [List.getElem?_eq_getElem (by omega)] at h2 ⊢
      rw [Option.getD_some] at h2
      rw [h2]
    refine List.mem_map.mpr ⟨(low, low.toNat), List.mem_filter.mpr ⟨?_, decide_eq_true (by simp; omega)⟩, rfl⟩
    rw [List.mem_zipIdx_iff_getElem?]
    exact hg
theorem lows_nodup : (lowsM k B).Nodup := by
  refine (isort_perm _).nodup_iff.mpr ?_
  have e : ((labels k B).zipIdx.filter fun q => decide (q.1 = (q.2 : Int))).map (fun q => q.1) = ((labels k B).zipIdx.filter fun q => decide (q.1 = (q.2 : Int))).map fun q => ((q.2 : Nat) : Int) := List.map_congr_left fun q hq => of_decide_eq_true (List.mem_filter.mp hq).2
  rw [e]
  have s : (((labels k B).zipIdx.filter fun q => decide (q.1 = (q.2 : Int))).map fun q => ((q.2 : Nat) : Int)).Sublist ((labels k B).zipIdx.map fun q => ((q.2 : Nat) : Int)) := List.filter_sublist.map _
  refine List.Nodup.sublist s ?_
  have e2 : ((labels k B).zipIdx.map fun q => ((q.2 : Nat) : Int)) = rangeL (labels k B).length := by
    refine List.ext_getElem (by simp) fun n h1 h2 => ?_
    simp
  rw [e2]
  refine nodup_map List.nodup_range fun a _ b _ e => by omega
theorem lows_lt : (lowsM k B).Pairwise (· < ·) := by
  have h1 := isort_pw (((labels k B).zipIdx.filter fun q => decide (q.1 = (q.2 : Int))).map fun q => q.1)
  have h2 : (lowsM k B).Nodup := lows_nodup
  exact (List.Pairwise.and h1 h2).imp fun ⟨a, b⟩ => by omega
theorem lotAt_head (vb : VB k B) (h : low ∈ lowsM k B) : ∃ r, lotAt k B low = low :: r := by
  obtain ⟨h1, h2⟩ := (lows_mem vb).mp h
  have hm : low ∈ lotAt k B low := lotAt_mem.mpr ⟨h1, h2⟩
  have hle : ∀ x ∈ lotAt k B low, low ≤ x := fun x hx => by
    obtain ⟨h3, h4⟩ := lotAt_mem.mp hx
    have := ((labels_LI vb).le x h3).1
    omega
  have hp := lotAt_lt (k := k) (B := B) (low := low)
  generalize lotAt k B low = l at *
  cases l with
  | nil => cases hm
  | cons a t =>
    rcases List.mem_cons.mp hm with e | e
    · exact ⟨t, by rw [e]⟩
    · have h3 := (List.pairwise_cons.mp hp).1 low e
      have h4 := hle a List.mem_cons_self
      omega
end
end N34

set_option Elab.async false
set_option linter.all false
set_option maxRecDepth 100000
/-! plain: the lots are those of parts; what a lot is -/
namespace N34
open PySem
section
variable {k : Nat} {B L : List (List Int)} {i j m low : Int} {l b x lot : List Int}
theorem vle_head {a c : Int} {r s : List Int} (h : a < c) : vle (a :: r) (c :: s) = true := by
  unfold vle
  have : vlt (c :: s) (a :: r) = false := by
    rw [vlt, HT.lexLt_cons, if_neg (by omega)]
    exact decide_eq_false (by omega)
  rw [this]; rfl
theorem lots_sorted (vb : VB k B) : (lotsM k B).Pairwise fun a b => vle a b = true := by
  rw [lotsM_def, List.pairwise_map]
  refine List.Pairwise.imp_of_mem ?_ lows_lt
  intro a c ha hc h
  obtain ⟨r, e1⟩ := lotAt_head vb ha
  obtain ⟨s, e2⟩ := lotAt_head vb hc
  rw [e1, e2]; exact vle_head h
theorem lots_nodup (vb : VB k B) : (lotsM k B).Nodup := by
  rw [lotsM_def]
  refine nodup_map lows_nodup fun a ha c hc e => ?_
  obtain ⟨r, e1⟩ := lotAt_head vb ha
  obtain ⟨s, e2⟩ := lotAt_head vb hc
  rw [e1, e2] at e
  exact (List.cons.inj e).1
theorem flat_disj : ∀ {L : List (List Int)}, L.flatten.Nodup → ∀ l1 ∈ L, ∀ l2 ∈ L, ∀ i, i ∈ l1 → i ∈ l2 → l1 = l2
  | [], _, _, h, _, _, _, _, _ => nomatch h
  | a :: L, hn, l1, h1, l2, h2, i, i1, i2 => by
    rw [List.flatten_cons] at hn
    obtain ⟨_, n2, n3⟩ := List.nodup_append.mp hn
    rcases List.mem_cons.mp h1 with e1 | e1 <;> rcases List.mem_cons.mp h2 with e2 | e2
    · rw [e1, e2]
    · exact absurd rfl (n3 i (e1 ▸ i1) i (List.mem_flatten.mpr ⟨l2, e2, i2⟩))
    · exact absurd rfl (n3 i (e2 ▸ i2) i (List.mem_flatten.mpr ⟨l1, e1, i1⟩))
    · exact flat_disj n2 l1 e1 l2 e2 i i1 i2
theorem flat_nodup : ∀ {L : List (List Int)}, L.flatten.Nodup → (∀ l ∈ L, l ≠ []) → L.Nodup
  | [], _, _ => List.nodup_nil
  | a :: L, hn, he => by
    rw [List.flatten_cons] at hn
    obtain ⟨_, n2, n3⟩ := List.nodup_append.mp hn
    refine List.nodup_cons.mpr ⟨fun h => ?_, flat_nodup n2 fun l hl => he l (List.mem_cons_of_mem _ hl)⟩
    obtain ⟨i, hi⟩ := List.exists_mem_of_ne_nil a (he a List.mem_cons_self)
    exact n3 i hi i (List.mem_flatten.mpr ⟨a, h, hi⟩) rfl
theorem flat_part : ∀ {L : List (List Int)}, L.flatten.Nodup → ∀ l ∈ L, l.Nodup
  | a :: L, hn, l, h => by
    rw [List.flatten_cons] at hn
    obtain ⟨n1, n2, _⟩ := List.nodup_append.mp hn
    rcases List.mem_cons.mp h with e | e
    · rw [e]; exact n1
    · exact flat_part n2 l e
theorem rangeL_nodup : (rangeL k).Nodup := nodup_map List.nodup_range fun a _ b _ e => by omega
theorem LotsOk.fnd (o : LotsOk k L) : L.flatten.Nodup := o.perm.nodup_iff.mpr rangeL_nodup
theorem raw_isort (vb : VB k B) {L : List (List Int)} (h : PI k B B L) (hl : l ∈ L) (hi : i ∈ l) : isort l = lotAt k B (vAt (labels k B) i) := by
  have hr := h.ok.lt l hl i hi
  refine (isort_uniq ?_ (lt_le lotAt_lt) (isort_pw l)).symm
  refine List.Perm.trans ?_ (isort_perm l).symm
  refine (List.perm_ext_iff_of_nodup (lt_nodup lotAt_lt) (flat_part h.ok.fnd l hl)).mpr fun j => ?_
  rw [lotAt_mem, h.cls vb hl hi]
  constructor
  · rintro ⟨h1, h2⟩
    exact (labels_cn vb hr h1).mp h2.symm
  · intro hc
    have h1 := hc.inr hr
    exact ⟨h1, ((labels_cn vb hr h1).mpr hc).symm⟩
theorem parts_perm (vb : VB k B) {L : List (List Int)} (h : PI k B B L) : (lotsM k B).Perm (L.map isort) := by
  have nd2 : (L.map isort).Nodup := nodup_map (flat_nodup h.ok.fnd h.ok.ne) fun a ha c hc e => by
    obtain ⟨i, hi⟩ := List.exists_mem_of_ne_nil a (h.ok.ne a ha)
    have : i ∈ c := isort_mem.mp (e ▸ isort_mem.mpr hi)
    exact flat_disj h.ok.fnd a ha c hc i hi this
  refine (List.perm_ext_iff_of_nodup (lots_nodup vb) nd2).mpr fun l => ?_
  rw [lotsM_def, List.mem_map, List.mem_map]
  constructor
  · rintro ⟨low, hlow, rfl⟩
    obtain ⟨h1, h2⟩ := (lows_mem vb).mp hlow
    obtain ⟨l, hl, hi⟩ := h.ok.has h1
    exact ⟨l, hl, by rw [raw_isort vb h hl hi, h2]⟩
  · rintro ⟨l, hl, rfl⟩
    obtain ⟨i, hi⟩ := List.exists_mem_of_ne_nil l (h.ok.ne l hl)
    have hr := h.ok.lt l hl i hi
    exact ⟨vAt (labels k B) i, (lows_mem vb).mpr ⟨vAt_lt (labels_LI vb).lt hr, labels_fix vb hr⟩, (raw_isort vb h hl hi).symm⟩
theorem Cn.mono {B' : List (List Int)} (hB : ∀ b ∈ B, b ∈ B') (h : Cn k B i j) : Cn k B' i j := by
  induction h with
  | base h1 h2 h3 h4 h5 => exact .base (hB _ h1) h2 h3 h4 h5
  | refl => exact .refl _
  | symm _ ih => exact ih.symm
  | trans _ _ a b => exact a.trans b
theorem parts_lots (vb : VB k B) : partsM k (vsort B) = lotsM k B := by
  have vb2 := vb.vs
  have h := raw_ok vb2
  have h' : PI k B B (rawM k (vsort B)) := ⟨h.ok, fun l hl i hi j hj => (h.con l hl i hi j hj).mono fun b hb => vsort_mem.mp hb, fun b hb => h.cl b (vsort_mem.mpr hb)⟩
  have e : partsM k (vsort B) = vsort ((rawM k (vsort B)).map isort) := by unfold partsM; rfl
  rw [e]
  exact (vsort_uniq (parts_perm vb h') (lots_sorted vb)).symm
/-! what a lot is -/
theorem sum_zero {l : List Int} (h : ∀ x ∈ l, 0 ≤ x) (hs : l.sum ≤ 0) : ∀ x ∈ l, x = 0 := fun x hx => by
  have := le_sum h x hx
  have := h x hx
  omega
theorem lot_split (hnd : l.Nodup) (hrg : ∀ i ∈ l, 0 ≤ i ∧ i < k) : (l ++ (rangeL k).filter fun j => !decide (j ∈ l)).Perm (rangeL k) := by
  refine (List.perm_ext_iff_of_nodup ?_ rangeL_nodup).mpr fun j => ?_
  · refine List.nodup_append.mpr ⟨hnd, rangeL_nodup.sublist List.filter_sublist, fun a ha c hc e => ?_⟩
    have := (List.mem_filter.mp hc).2
    rw [← e] at this
    simp [ha] at this
  · rw [List.mem_append, List.mem_filter]
    constructor
    · rintro (h | ⟨h, _⟩)
      · exact rangeL_mem.mpr (hrg j h)
      · exact h
    · intro h
      by_cases c : j ∈ l
      · exact .inl c
      · exact .inr ⟨h, by simp [c]⟩
theorem cut_split (hnd : l.Nodup) (hrg : ∀ i ∈ l, 0 ≤ i ∧ i < k) (hx : x.length = k) : (cut l x).sum + (((rangeL k).filter fun j => !decide (j ∈ l)).map fun j => vAt x j).sum = x.sum := by
  have := perm_sum ((lot_split hnd hrg).map fun j => vAt x j)
  rw [List.map_append, sum_app, ← cut_eq, ← cut_eq (lot := rangeL k), cut_range hx] at this
  exact this
theorem rest_nn (hn : ∀ y ∈ x, 0 ≤ y) : ∀ y ∈ ((rangeL k).filter fun j => !decide (j ∈ l)).map fun j => vAt x j, 0 ≤ y := fun y hy => by
  obtain ⟨j, _, rfl⟩ := List.mem_map.mp hy
  exact vAt_nn hn j
theorem cut_le (hnd : l.Nodup) (hrg : ∀ i ∈ l, 0 ≤ i ∧ i < k) (hx : CrOk k x) : (cut l x).sum ≤ x.sum := by
  have h1 := cut_split hnd hrg hx.len
  have h2 := sum_nn (rest_nn (k := k) (l := l) hx.nn)
  omega
theorem cut_crok (hx : CrOk k x) : CrOk l.length (cut l x) := ⟨by rw [cut_eq, List.length_map], fun i hi => by
  rw [cut_eq] at hi
  obtain ⟨j, _, rfl⟩ := List.mem_map.mp hi
  exact vAt_nn hx.nn j⟩
/-- b lies within the lot -/
theorem cut_all (hnd : l.Nodup) (hrg : ∀ i ∈ l, 0 ≤ i ∧ i < k) (hx : CrOk k x) : (cut l x).sum = x.sum ↔ ∀ j : Int, (0 ≤ j ∧ j < k) → j ∉ l → vAt x j = 0 := by
  have h1 := cut_split hnd hrg hx.len
  have hn := rest_nn (k := k) (l := l) hx.nn
  constructor
  · intro e j hj hjl
    exact sum_zero hn (by omega) _ (List.mem_map.mpr ⟨j, List.mem_filter.mpr ⟨rangeL_mem.mpr hj, by simp [hjl]⟩, rfl⟩)
  · intro h
    have : (((rangeL k).filter fun j => !decide (j ∈ l)).map fun j => vAt x j).sum = 0 := by
      have hz : ∀ y ∈ ((rangeL k).filter fun j => !decide (j ∈ l)).map fun j => vAt x j, y = 0 := fun y hy => by
        obtain ⟨j, hj, rfl⟩ := List.mem_map.mp hy
        obtain ⟨h3, h4⟩ := List.mem_filter.mp hj
        exact h j (rangeL_mem.mp h3) (by simpa using h4)
      generalize ((rangeL k).filter fun j => !decide (j ∈ l)).map (fun j => vAt x j) = ys at hz
      induction ys with
      | nil => rfl
      | cons a ys ih => rw [List.sum_cons, hz a List.mem_cons_self, ih fun y hy => hz y (List.mem_cons_of_mem _ hy)]; rfl
    omega
theorem VB.cr (vb : VB k B) (hb : b ∈ B) : CrOk k b := ⟨vb.len b hb, vb.nn b hb⟩
theorem chosen_mem : x ∈ chosenM B l ↔ ∃ b ∈ B, (cut l b).sum = b.sum ∧ x = cut l b := by
  unfold chosenM
  rw [List.mem_map]
  constructor
  · rintro ⟨b, hb, rfl⟩
    obtain ⟨h1, h2⟩ := List.mem_filter.mp hb
    exact ⟨b, h1, of_decide_eq_true h2, rfl⟩
  · rintro ⟨b, h1, h2, rfl⟩
    exact ⟨b, List.mem_filter.mpr ⟨h1, decide_eq_true h2⟩, rfl⟩
structure LotOk (k : Nat) (B : List (List Int)) (lot : List Int) : Prop where
  rg : ∀ i ∈ lot, 0 ≤ i ∧ i < k
  le : lot.length ≤ k
  ne : lot ≠ []
  nd : lot.Nodup
  vb : VB lot.length (chosenM B lot)
theorem vb_chosen (vb : VB k B) (hnd : l.Nodup) (hrg : ∀ i ∈ l, 0 ≤ i ∧ i < k) (hne : l ≠ []) (hle : l.length ≤ k) : VB l.length (chosenM B l) := by
  have k4 := vb.le4
  have hp := List.length_pos_iff.mpr hne
  refine ⟨hp, by omega, by omega, fun x hx => ?_, fun x hx => ?_, fun x hx => ?_, ?_, ?_, fun x hx => ?_, by omega⟩
  · obtain ⟨b, hb, _, rfl⟩ := chosen_mem.mp hx
    exact (cut_crok (vb.cr hb)).len
  · obtain ⟨b, hb, _, rfl⟩ := chosen_mem.mp hx
    exact (cut_crok (vb.cr hb)).nn
  · obtain ⟨b, hb, e, rfl⟩ := chosen_mem.mp hx
    rw [e]; exact vb.ps b hb
  · unfold chosenM
    refine nodup_map (vb.nd.sublist List.filter_sublist) fun a ha c hc e => ?_
    obtain ⟨a1, a2⟩ := List.mem_filter.mp ha
    obtain ⟨c1, c2⟩ := List.mem_filter.mp hc
    have a3 := (cut_all hnd hrg (vb.cr a1)).mp (of_decide_eq_true a2)
    have c3 := (cut_all hnd hrg (vb.cr c1)).mp (of_decide_eq_true c2)
    refine ext_vAt (vb.len a a1) (vb.len c c1) fun j h1 h2 => ?_
    by_cases hj : j ∈ l
    · exact cut_inj e j hj
    · rw [a3 j ⟨h1, h2⟩ hj, c3 j ⟨h1, h2⟩ hj]
  · unfold chosenM
    rw [List.length_map]
    exact Nat.le_trans (List.length_filter_le _ _) vb.few
  · obtain ⟨b, hb, e, rfl⟩ := chosen_mem.mp hx
    rw [e]; exact vb.sm b hb
theorem sum_len : ∀ {L : List (List Int)}, (L.map (·.length)).sum = L.flatten.length
  | [] => rfl
  | a :: L => by rw [List.map_cons, List.sum_cons, sum_len, List.flatten_cons, List.length_append]
theorem perm_sumN {l m : List Nat} (h : l.Perm m) : l.sum = m.sum := by
  induction h with
  | nil => rfl
  | cons a _ ih => rw [List.sum_cons, List.sum_cons, ih]
  | swap a b l => simp only [List.sum_cons]; omega
  | trans _ _ h1 h2 => exact h1.trans h2
theorem lots_ok (vb : VB k B) : (∀ lot ∈ lotsM k B, LotOk k B lot) ∧ ((lotsM k B).map (·.length)).sum = k := by
  have h := raw_ok vb
  have hp := parts_perm vb h
  constructor
  · intro lot hlot
    obtain ⟨l, hl, rfl⟩ := List.mem_map.mp (hp.mem_iff.mp hlot)
    have hrg : ∀ i ∈ isort l, 0 ≤ i ∧ i < k := fun i hi => h.ok.lt l hl i (isort_mem.mp hi)
    have hnd : (isort l).Nodup := (isort_perm l).nodup_iff.mpr (flat_part h.ok.fnd l hl)
    have hne : isort l ≠ [] := fun e => h.ok.ne l hl (by
      have := (isort_perm l).length_eq
      rw [e] at this
      exact List.length_eq_zero_iff.mp this.symm)
    have hle : (isort l).length ≤ k := by rw [(isort_perm l).length_eq]; exact h.ok.small hl
    exact ⟨hrg, hle, hne, hnd, vb_chosen vb hnd hrg hne hle⟩
  · rw [perm_sumN (hp.map _), List.map_map]
    have e : ((fun x : List Int => x.length) ∘ isort) = fun x : List Int => x.length := funext fun x => (isort_perm x).length_eq
    rw [e, sum_len, h.ok.perm.length_eq]; simp
theorem cut_cr (hl : LotOk k B lot) (hx : CrOk k x) : CrOk lot.length (cut lot x) ∧ (cut lot x).sum ≤ x.sum := ⟨cut_crok hx, cut_le hl.nd hl.rg hx⟩
theorem chosen_vs (vb : VB k B) (h : lot ∈ lotsM k B) : vsort (chosenM (vsort B) lot) = vsort (chosenM B lot) ∧ VB lot.length (chosenM (vsort B) lot) := by
  have p : (chosenM (vsort B) lot).Perm (chosenM B lot) := by
    unfold chosenM
    exact ((vsort_perm B).filter _).map _
  exact ⟨vsort_congr p, ((lots_ok vb).1 lot h).vb.perm p.symm⟩
theorem lots_has (vb : VB k B) (hi : 0 ≤ i ∧ i < k) : ∃ lot ∈ lotsM k B, i ∈ lot := by
  have h := raw_ok vb
  obtain ⟨l, hl, hil⟩ := h.ok.has hi
  exact ⟨isort l, (parts_perm vb h).mem_iff.mpr (List.mem_map.mpr ⟨l, hl, rfl⟩), isort_mem.mpr hil⟩
theorem lots_lt (vb : VB k B) (h : lot ∈ lotsM k B) : lot.Pairwise (· < ·) := by
  rw [lotsM_def] at h
  obtain ⟨low, _, rfl⟩ := List.mem_map.mp h
  exact lotAt_lt
theorem sumN_mem {α : Type} (f : α → Nat) : ∀ {l : List α} {a : α}, a ∈ l → (∀ b ∈ l, 1 ≤ f b) → f a + (l.length - 1) ≤ (l.map f).sum
  | a :: l, x, hx, h => by
    rw [List.map_cons, List.sum_cons, List.length_cons]
    have hs : ∀ m : List α, (∀ b ∈ m, 1 ≤ f b) → m.length ≤ (m.map f).sum := by
      intro m
      induction m with
      | nil => intro _; simp
      | cons b m ih => intro hm; rw [List.map_cons, List.sum_cons, List.length_cons]; have := ih fun c hc => hm c (List.mem_cons_of_mem _ hc); have := hm b List.mem_cons_self; omega
    rcases List.mem_cons.mp hx with e | e
    · rw [e]; have := hs l fun b hb => h b (List.mem_cons_of_mem _ hb); omega
    · have := sumN_mem f e fun b hb => h b (List.mem_cons_of_mem _ hb)
      have := h a List.mem_cons_self
      have := List.length_pos_of_mem e
      omega
/-- what is no lot -/
theorem bad_ok (vb : VB k B) : lotsM k B ≠ [] ∧ (lotsM k B).length ≤ k ∧ NoLot k (vsort B) (vec []) ∧ NoLot k (vsort B) (vec [(k : Int)]) ∧ NoLot k (vsort B) (vec [-1]) ∧ (∀ l ∈ lotsM k B, NoLot k (vsort B) (vec (l ++ [0]))) ∧ (1 < (lotsM k B).length → NoLot k (vsort B) (vec (rangeL k))) := by
  obtain ⟨h1, h2⟩ := lots_ok vb
  have hp := vb.pos
  have hne : lotsM k B ≠ [] := fun e => by rw [e] at h2; simp at h2; omega
  obtain ⟨l0, hl0⟩ := List.exists_mem_of_ne_nil _ hne
  have hone : ∀ l ∈ lotsM k B, 1 ≤ l.length := fun l hl => List.length_pos_iff.mpr (h1 l hl).ne
  have hsm := sumN_mem (fun l : List Int => l.length) hl0 hone
  have h3 := hone l0 hl0
  have k4 := vb.le4
  have no : ∀ {l : List Int}, l.length ≤ 100 → l ∉ lotsM k B → NoLot k (vsort B) (vec l) := fun a b => .vec _ a (by rw [parts_lots vb]; exact b)
  refine ⟨hne, by omega, no (by simp) fun h => (h1 _ h).ne rfl, no (by simp) fun h => ?_, no (by simp) fun h => ?_, fun l hl => no ?_ fun h => ?_, fun hc => no (by simp; omega) fun h => ?_⟩
  · have := (h1 _ h).rg k (by simp); omega
  · have := (h1 _ h).rg (-1) (by simp); omega
  · rw [List.length_append]; have := (h1 l hl).le; simp; omega
  · have hlt := lots_lt vb h
    obtain ⟨i, hi⟩ := List.exists_mem_of_ne_nil l (h1 l hl).ne
    have := (List.pairwise_append.mp hlt).2.2 i hi 0 (by simp)
    have := (h1 l hl).rg i hi
    omega
  · have := sumN_mem (fun l : List Int => l.length) h hone
    simp at this
    omega
end
end N34

set_option Elab.async false
set_option linter.all false
set_option maxRecDepth 100000
/-! plain: what can be cleared -/
namespace N34
open PySem
section
variable {k : Nat} {B : List (List Int)} {i j f : Int} {a b x y z : List Int}
theorem at_lt (h : 0 ≤ j ∧ j < k) (hl : x.length = k) : x[j.toNat]? = some (vAt x j) := by
  unfold vAt
  rw [List.getElem?_eq_getElem (by omega)]; rfl
theorem vAt_addL (h : 0 ≤ j ∧ j < k) (ha : a.length = k) (hb : b.length = k) : vAt (addL a b) j = vAt a j + vAt b j := by
  have h1 := at_lt h ha
  have h2 := at_lt h hb
  have : (addL a b)[j.toNat]? = some (vAt a j + vAt b j) := by
    unfold addL
    rw [List.getElem?_map, (List.getElem?_zip_eq_some (z := (vAt a j, vAt b j))).mpr ⟨h1, h2⟩]; rfl
  rw [at_lt h (by rw [addL_len, ha, hb, Nat.min_self])] at this
  exact Option.some.inj this
theorem vAt_subL (h : 0 ≤ j ∧ j < k) (ha : a.length = k) (hb : b.length = k) : vAt (subL a b) j = vAt a j - vAt b j := by
  have h1 := at_lt h ha
  have h2 := at_lt h hb
  have : (subL a b)[j.toNat]? = some (vAt a j - vAt b j) := by
    unfold subL
    rw [List.getElem?_map, (List.getElem?_zip_eq_some (z := (vAt a j, vAt b j))).mpr ⟨h1, h2⟩]; rfl
  rw [at_lt h (by rw [subL_len, ha, hb, Nat.min_self])] at this
  exact Option.some.inj this
theorem leB_pt (ha : a.length = k) (hb : b.length = k) : leB a b = true ↔ ∀ j : Int, (0 ≤ j ∧ j < k) → vAt a j ≤ vAt b j := by
  rw [leB_iff (ha.trans hb.symm)]
  constructor
  · intro h j hj
    have := h j.toNat (by omega)
    rw [Int.toNat_of_nonneg hj.1] at this; exact this
  · intro h n hn
    exact h n ⟨by omega, by omega⟩
theorem add_len (ha : a.length = k) (hb : b.length = k) : (addL a b).length = k := by rw [addL_len, ha, hb, Nat.min_self]
theorem sub_len (ha : a.length = k) (hb : b.length = k) : (subL a b).length = k := by rw [subL_len, ha, hb, Nat.min_self]
theorem add_zer (ha : a.length = k) : addL a (zer k) = a := ext_vAt (add_len ha zer_len) ha fun j h1 h2 => by rw [vAt_addL ⟨h1, h2⟩ ha zer_len, vAt_zer]; omega
theorem add_assoc (ha : x.length = k) (hb : y.length = k) (hc : z.length = k) : addL x (addL y z) = addL (addL x y) z :=
  ext_vAt (add_len ha (add_len hb hc)) (add_len (add_len ha hb) hc) fun j h1 h2 => by
    rw [vAt_addL ⟨h1, h2⟩ ha (add_len hb hc), vAt_addL ⟨h1, h2⟩ hb hc, vAt_addL ⟨h1, h2⟩ (add_len ha hb) hc, vAt_addL ⟨h1, h2⟩ ha hb]; omega
theorem add_sub (ha : x.length = k) (hb : b.length = k) : subL (addL x b) b = x :=
  ext_vAt (sub_len (add_len ha hb) hb) ha fun j h1 h2 => by rw [vAt_subL ⟨h1, h2⟩ (add_len ha hb) hb, vAt_addL ⟨h1, h2⟩ ha hb]; omega
theorem sub_add (ha : x.length = k) (hb : b.length = k) : addL (subL x b) b = x :=
  ext_vAt (add_len (sub_len ha hb) hb) ha fun j h1 h2 => by rw [vAt_addL ⟨h1, h2⟩ (sub_len ha hb) hb, vAt_subL ⟨h1, h2⟩ ha hb]; omega
theorem sub_add2 (ha : x.length = k) (hb : b.length = k) (hc : y.length = k) : subL (addL x b) y = addL (subL x y) b :=
  ext_vAt (sub_len (add_len ha hb) hc) (add_len (sub_len ha hc) hb) fun j h1 h2 => by rw [vAt_subL ⟨h1, h2⟩ (add_len ha hb) hc, vAt_addL ⟨h1, h2⟩ ha hb, vAt_addL ⟨h1, h2⟩ (sub_len ha hc) hb, vAt_subL ⟨h1, h2⟩ ha hc]; omega
theorem add_cr (ha : CrOk k a) (hb : CrOk k b) : CrOk k (addL a b) := ⟨add_len ha.len hb.len, addL_nn ha.nn hb.nn⟩
theorem zero_of (h : CrOk k x) (hs : x.sum = 0) : x = zer k := ext_vAt h.len zer_len fun j h1 h2 => by
  rw [vAt_zer]
  exact sum_zero h.nn (by omega) _ (vAt_mem ⟨h1, by rw [h.len]; exact h2⟩)
/-- x is put together of members of B -/
inductive Clr (k : Nat) (B : List (List Int)) : List Int → Prop
  | zero : Clr k B (zer k)
  | add {x b : List Int} : Clr k B x → b ∈ B → Clr k B (addL x b)
/-- the members are crowds -/
def Mem (k : Nat) (B : List (List Int)) : Prop := ∀ b ∈ B, CrOk k b
theorem VB.mem (vb : VB k B) : Mem k B := fun _ h => vb.cr h
theorem Clr.cr (hB : Mem k B) (h : Clr k B x) : CrOk k x := by
  induction h with
  | zero => exact zer_cr
  | add _ hb ih => exact add_cr ih (hB _ hb)
theorem Clr.mono {B' : List (List Int)} (hs : ∀ b ∈ B, b ∈ B') (h : Clr k B x) : Clr k B' x := by
  induction h with
  | zero => exact .zero
  | add _ hb ih => exact .add ih (hs _ hb)
theorem Clr.app (hB : Mem k B) (hx : Clr k B x) (hy : Clr k B y) : Clr k B (addL x y) := by
  induction hy with
  | zero => rw [add_zer (hx.cr hB).len]; exact hx
  | add h hb ih => rw [add_assoc (hx.cr hB).len (h.cr hB).len (hB _ hb).len]; exact .add ih hb
theorem Clr.take (hB : Mem k B) (h : Clr k B x) (hf : 0 ≤ f ∧ f < k) (hp : 0 < vAt x f) : ∃ b ∈ B, 0 < vAt b f ∧ leB b x = true ∧ Clr k B (subL x b) := by
  induction h with
  | zero => rw [vAt_zer] at hp; omega
  | @add x b h hb ih =>
    have hx := (h.cr hB).len
    have hbl := (hB _ hb).len
    by_cases c : 0 < vAt b f
    · refine ⟨b, hb, c, (leB_pt hbl (add_len hx hbl)).mpr fun j hj => ?_, by rw [add_sub hx hbl]; exact h⟩
      rw [vAt_addL hj hx hbl]
      have := vAt_nn (h.cr hB).nn j
      omega
    · rw [vAt_addL hf hx hbl] at hp
      obtain ⟨c', h1, h2, h3, h4⟩ := ih (by omega)
      have hcl := (hB _ h1).len
      refine ⟨c', h1, h2, (leB_pt hcl (add_len hx hbl)).mpr fun j hj => ?_, by rw [sub_add2 hx hbl hcl]; exact .add h4 hb⟩
      rw [vAt_addL hj hx hbl]
      have := (leB_pt hcl hx).mp h3 j hj
      have := vAt_nn (hB _ hb).nn j
      omega
theorem Clr.back (hx : x.length = k) (hB : Mem k B) (hb : b ∈ B) (h : Clr k B (subL x b)) : Clr k B x := by
  have := Clr.add h hb
  rw [sub_add hx (hB _ hb).len] at this
  exact this
theorem kinds1_at (h : j ∈ kinds1 x) : (0 ≤ j ∧ j < x.length) ∧ 0 < vAt x j := by
  unfold kinds1 at h
  obtain ⟨q, hq, rfl⟩ := List.mem_map.mp h
  obtain ⟨h1, h2⟩ := List.mem_filter.mp hq
  have h3 := zipIdx_lt h1
  have h4 := (zipIdx_mem h1).2
  refine ⟨⟨by omega, by omega⟩, ?_⟩
  unfold vAt
  rw [Int.toNat_natCast, h4]
  simpa using h2
theorem first_at (hx : CrOk k x) (hs : ¬ x.sum = 0) : (0 ≤ vAt (kinds1 x) 0 ∧ vAt (kinds1 x) 0 < k) ∧ 0 < vAt x (vAt (kinds1 x) 0) := by
  have h := kinds1_ne hx.nn hs
  have hm : vAt (kinds1 x) 0 ∈ kinds1 x := vAt_mem ⟨Int.le_refl _, by omega⟩
  have := kinds1_at hm
  rw [hx.len] at this
  exact this
/-- clearing by the first kind -/
theorem clr_first (hB : Mem k B) (hx : CrOk k x) : Clr k B x ↔ x.sum = 0 ∨ (¬ x.sum = 0 ∧ ∃ b ∈ B, 0 < vAt b (vAt (kinds1 x) 0) ∧ leB b x = true ∧ Clr k B (subL x b)) := by
  constructor
  · intro h
    by_cases hs : x.sum = 0
    · exact .inl hs
    · obtain ⟨h1, h2⟩ := first_at hx hs
      exact .inr ⟨hs, h.take hB h1 h2⟩
  · rintro (hs | ⟨_, b, hb, _, _, h⟩)
    · rw [zero_of hx hs]; exact .zero
    · exact Clr.back hx.len hB hb h
theorem bwf_mem {at_ : Int} : at_ ∈ bwf B x ↔ ¬ (kinds1 x).length = 0 ∧ (0 ≤ at_ ∧ at_ < B.length) ∧ 0 < vAt (bAt B at_) (vAt (kinds1 x) 0) ∧ leB (bAt B at_) x = true := by
  constructor
  · intro h
    obtain ⟨h1, h2, h3⟩ := bwf_ok h
    refine ⟨fun z => ?_, h1, h3, h2⟩
    unfold bwf at h
    rw [if_pos z] at h; cases h
  · rintro ⟨h0, h1, h2, h3⟩
    unfold bwf
    rw [if_neg h0]
    have hg : B[at_.toNat]? = some (bAt B at_) := by
      unfold bAt
      rw [List.getElem?_eq_getElem (by omega)]; rfl
    refine List.mem_map.mpr ⟨(bAt B at_, at_.toNat), List.mem_filter.mpr ⟨List.mem_zipIdx_iff_getElem?.mpr hg, ?_⟩, by omega⟩
    show (decide (0 < vAt (bAt B at_) (vAt (kinds1 x) 0)) && leB (bAt B at_) x) = true
    rw [decide_eq_true h2, h3]; rfl
theorem mem_at (h : b ∈ B) : ∃ at_ : Int, (0 ≤ at_ ∧ at_ < B.length) ∧ bAt B at_ = b := by
  obtain ⟨n, hn⟩ := List.getElem?_of_mem h
  have := (List.getElem?_eq_some_iff.mp hn).1
  refine ⟨n, ⟨by omega, by omega⟩, ?_⟩
  unfold bAt
  rw [Int.toNat_natCast, hn]; rfl
/-! clearing keeps a true book -/
def Tru (k : Nat) (B : List (List Int)) (s : Int) (m : Kn) : Prop := ∀ y o, y.sum < s → lk m y = some o → (o.isSome = true ↔ Clr k B y)
structure ClrS (k : Nat) (B : List (List Int)) (x : List Int) (m m' : Kn) : Prop where
  tru : Tru k B (x.sum + 1) m'
  frm : ∀ y, x.sum < y.sum → lk m' y = lk m y
  has : ∃ o, lk m' x = some o ∧ (o.isSome = true ↔ Clr k B x)
theorem clrM_tru (vb : VB k B) : ∀ (n : Nat) (x : List Int) (m : Kn), CrOk k x → x.sum < n → Tru k B (x.sum + 1) m → ClrS k B x m (clrM B n x m)
  | 0, x, m, hx, hn, _ => by have := sum_nn hx.nn; omega
  | n + 1, x, m, hx, hn, ht => by
    have hB := vb.mem
    by_cases hk : (lk m x).isSome = true
    · rw [clrM_in hk]
      obtain ⟨o, ho⟩ := Option.isSome_iff_exists.mp hk
      exact ⟨ht, fun _ _ => rfl, o, ho, ht x o (by omega) ho⟩
    · rw [clrM_out hk]
      have key : ∀ (rest pre : List Int) (m1 : Kn), (∀ i ∈ rest, i ∈ bwf B x) →
          Tru k B x.sum m1 → (∀ y, x.sum ≤ y.sum → y ≠ x → lk m1 y = lk m y) → (∃ o, lk m1 x = some o ∧ (o.isSome = true ↔ (x.sum = 0 ∨ ∃ i ∈ pre, Clr k B (subL x (bAt B i))))) →
          Tru k B x.sum (rest.foldl (clrStep B n x) m1) ∧ (∀ y, x.sum ≤ y.sum → y ≠ x → lk (rest.foldl (clrStep B n x) m1) y = lk m y) ∧ (∃ o, lk (rest.foldl (clrStep B n x) m1) x = some o ∧ (o.isSome = true ↔ (x.sum = 0 ∨ ∃ i ∈ pre ++ rest, Clr k B (subL x (bAt B i))))) := by
        intro rest
        induction rest with
        | nil => intro pre m1 _ h1 h2 h3; rw [List.append_nil]; exact ⟨h1, h2, h3⟩
        | cons i rest ih =>
          intro pre m1 hr h1 h2 h3
          obtain ⟨o, ho, hiff⟩ := h3
          have hi := hr i List.mem_cons_self
          obtain ⟨hi1, hi2, hi3⟩ := bwf_ok hi
          have hbm := bAt_mem hi1
          have hbl := vb.len _ hbm
          have hbp := vb.ps _ hbm
          have hc := sub_cr hx hbl hi2
          have hs := sub_sum (hx.len.trans hbl.symm)
          rw [List.foldl_cons]
          have e : pre ++ i :: rest = (pre ++ [i]) ++ rest := by simp
          rw [e]
          refine ih (pre ++ [i]) _ (fun q hq => hr q (List.mem_cons_of_mem _ hq)) ?_ ?_ ?_ <;> unfold clrStep
          all_goals
            by_cases hno : (lkN m1 x).isNone = true
            · rw [if_pos hno]
              have sp := clrM_tru vb n (subL x (bAt B i)) m1 hc (by omega) (fun y o' hy ho' => h1 y o' (by omega) ho')
              first
                | (intro y o' hy ho'
                   have hyx : y ≠ x := fun z => by rw [z] at hy; omega
                   rw [lk_pt_ne hyx] at ho'
                   by_cases c : y.sum < (subL x (bAt B i)).sum + 1
                   · exact sp.tru y o' c ho'
                   · rw [sp.frm y (by omega)] at ho'; exact h1 y o' hy ho')
                | (intro y hy hyx
                   rw [lk_pt_ne hyx, sp.frm y (by omega)]
                   exact h2 y hy hyx)
                | (obtain ⟨o2, ho2, hiff2⟩ := sp.has
                   refine ⟨_, lk_pt_same, ?_⟩
                   have e1 : lkN (clrM B n (subL x (bAt B i)) m1) (subL x (bAt B i)) = o2 := by unfold lkN; rw [ho2]; rfl
                   have e2 : lkN m1 x = o := by unfold lkN; rw [ho]; rfl
                   rw [e1, Option.isSome_map, hiff2]
                   rw [e2] at hno
                   have hof : ¬ o.isSome = true := by cases o <;> simp at hno ⊢
                   have hnp : ¬ (x.sum = 0 ∨ ∃ i ∈ pre, Clr k B (subL x (bAt B i))) := fun z => hof (hiff.mpr z)
                   constructor
                   · intro h; exact .inr ⟨i, by simp, h⟩
                   · rintro (h | ⟨q, hq, h⟩)
                     · exact absurd (.inl h) hnp
                     · rcases List.mem_append.mp hq with z | z
                       · exact absurd (.inr ⟨q, z, h⟩) hnp
                       · rw [List.mem_singleton.mp z] at h; exact h)
            · rw [if_neg hno]
              first
                | exact h1
                | exact h2
                | (have e2 : lkN m1 x = o := by unfold lkN; rw [ho]; rfl
                   rw [e2] at hno
                   have hot : o.isSome = true := by cases o <;> simp at hno ⊢
                   refine ⟨o, ho, ⟨fun _ => ?_, fun _ => hot⟩⟩
                   rcases hiff.mp hot with z | ⟨q, hq, z⟩
                   · exact .inl z
                   · exact .inr ⟨q, by simp [hq], z⟩)
      obtain ⟨g1, g2, o, g3, g4⟩ := key (bwf B x) [] (clr0 x m) (fun _ h => h) (fun y o hy ho => by
          have hyx : y ≠ x := fun z => by rw [z] at hy; omega
          unfold clr0 at ho
          rw [lk_pt_ne hyx] at ho; exact ht y o (by omega) ho) (fun y hy hyx => by unfold clr0; rw [lk_pt_ne hyx])
        ⟨_, lk_pt_same, by
          by_cases hs : x.sum = 0
          · rw [if_pos hs]; simp [hs]
          · rw [if_neg hs]; simp [hs]⟩
      rw [List.nil_append] at g4
      have g5 : o.isSome = true ↔ Clr k B x := by
        rw [g4, clr_first hB hx]
        constructor
        · rintro (h | ⟨i, hi, h⟩)
          · exact .inl h
          · obtain ⟨h0, h1, h2, h3⟩ := bwf_mem.mp hi
            by_cases hs : x.sum = 0
            · exact .inl hs
            · exact .inr ⟨hs, _, bAt_mem h1, h2, h3, h⟩
        · rintro (h | ⟨hs, b, hb, h1, h2, h3⟩)
          · exact .inl h
          · obtain ⟨i, hi, rfl⟩ := mem_at hb
            exact .inr ⟨i, bwf_mem.mpr ⟨kinds1_ne hx.nn hs, hi, h1, h2⟩, h3⟩
      refine ⟨fun y o' hy ho' => ?_, fun y hy => g2 y (by omega) (fun z => by rw [z] at hy; omega), o, g3, g5⟩
      by_cases c : y.sum < x.sum
      · exact g1 y o' c ho'
      · by_cases e : y = x
        · subst e
          rw [g3] at ho'; cases ho'; exact g5
        · rw [g2 y (by omega) e] at ho'
          exact ht y o' hy ho'
end
end N34

set_option Elab.async false
set_option linter.all false
set_option maxRecDepth 100000
/-! plain: the law's clearing; least covers, found by the program -/
namespace N34
open PySem
section
variable {k : Nat} {B : List (List Int)} {i j f : Int} {a b c d x y z wanted : List Int}
/-! the law's own clearing -/
def TruB (k : Nat) (B : List (List Int)) (s : Int) (m : Kb) : Prop := ∀ y o, y.sum < s → lk m y = some o → (o = true ↔ Clr k B y)
structure LclS (k : Nat) (B : List (List Int)) (x : List Int) (m : Kb) (r : Bool × Kb) : Prop where
  tru : TruB k B (x.sum + 1) r.2
  frm : ∀ y, x.sum < y.sum → lk r.2 y = lk m y
  res : r.1 = true ↔ Clr k B x
theorem lclGo_tru (vb : VB k B) (hx : CrOk k x) {g : List Int → Kb → Bool × Kb} (hg : ∀ b ∈ B, leB b x = true → ∀ m, TruB k B x.sum m → LclS k B (subL x b) m (g (subL x b) m)) : ∀ (bs : List (List Int)) (m : Kb), (∀ b ∈ bs, b ∈ B) → TruB k B x.sum m → lk m x = some false →
    TruB k B x.sum (lclGo g x f bs m) ∧ (∀ y, x.sum ≤ y.sum → y ≠ x → lk (lclGo g x f bs m) y = lk m y) ∧ ∃ o, lk (lclGo g x f bs m) x = some o ∧ (o = true ↔ ∃ b ∈ bs, 0 < vAt b f ∧ leB b x = true ∧ Clr k B (subL x b))
  | [], m, _, h1, h2 => ⟨h1, fun _ _ _ => rfl, false, h2, by simp⟩
  | b :: bs, m, hs, h1, h2 => by
    unfold lclGo
    by_cases hc : (decide (0 < vAt b f) && leB b x) = true
    · rw [if_pos (by simpa using hc)]
      have hc' := hc
      rw [Bool.and_eq_true, decide_eq_true_eq] at hc'
      have hb := hs b List.mem_cons_self
      have sp := hg b hb hc'.2 m h1
      have hbl := vb.len b hb
      have hbp := vb.ps b hb
      have hss := sub_sum (hx.len.trans hbl.symm)
      have t1 : TruB k B x.sum (g (subL x b) m).2 := fun y o hy ho => by
        by_cases c : y.sum < (subL x b).sum + 1
        · exact sp.tru y o c ho
        · rw [sp.frm y (by omega)] at ho; exact h1 y o hy ho
      have t2 : ∀ y, x.sum ≤ y.sum → lk (g (subL x b) m).2 y = lk m y := fun y hy => sp.frm y (by omega)
      show TruB k B x.sum (if (g (subL x b) m).1 = true then pt (g (subL x b) m).2 x true else lclGo g x f bs (g (subL x b) m).2) ∧ _
      by_cases hr : (g (subL x b) m).1 = true
      · simp only [if_pos hr]
        refine ⟨fun y o hy ho => ?_, fun y hy hyx => by rw [lk_pt_ne hyx]; exact t2 y hy, true, lk_pt_same, ⟨fun _ => ⟨b, List.mem_cons_self, hc'.1, hc'.2, sp.res.mp hr⟩, fun _ => rfl⟩⟩
        have hyx : y ≠ x := fun z => by rw [z] at hy; omega
        rw [lk_pt_ne hyx] at ho; exact t1 y o hy ho
      · simp only [if_neg hr]
        obtain ⟨g1, g2, o, g3, g4⟩ := lclGo_tru vb hx hg bs _ (fun q hq => hs q (List.mem_cons_of_mem _ hq)) t1 (by rw [t2 x (Int.le_refl _)]; exact h2)
        refine ⟨g1, fun y hy hyx => by rw [g2 y hy hyx, t2 y hy], o, g3, ?_⟩
        rw [g4]
        constructor
        · rintro ⟨q, hq, h⟩; exact ⟨q, List.mem_cons_of_mem _ hq, h⟩
        · rintro ⟨q, hq, h⟩
          rcases List.mem_cons.mp hq with e | e
          · rw [e] at h; exact absurd (sp.res.mpr h.2.2) hr
          · exact ⟨q, e, h⟩
    · rw [if_neg (by simpa using hc)]
      obtain ⟨g1, g2, o, g3, g4⟩ := lclGo_tru vb hx hg bs m (fun q hq => hs q (List.mem_cons_of_mem _ hq)) h1 h2
      refine ⟨g1, g2, o, g3, ?_⟩
      rw [g4]
      constructor
      · rintro ⟨q, hq, h⟩; exact ⟨q, List.mem_cons_of_mem _ hq, h⟩
      · rintro ⟨q, hq, h⟩
        rcases List.mem_cons.mp hq with e | e
        · rw [e] at h
          exact absurd (by rw [Bool.and_eq_true, decide_eq_true_eq]; exact ⟨h.1, h.2.1⟩) hc
        · exact ⟨q, e, h⟩
theorem lclM_tru (vb : VB k B) : ∀ (n : Nat) (x : List Int) (m : Kb), CrOk k x → x.sum < n → TruB k B (x.sum + 1) m → LclS k B x m (lclM B n x m)
  | 0, x, m, hx, hn, _ => by have := sum_nn hx.nn; omega
  | n + 1, x, m, hx, hn, ht => by
    have hB := vb.mem
    by_cases hs : x.sum = 0
    · rw [lclM_nought hs]
      exact ⟨ht, fun _ _ => rfl, ⟨fun _ => (clr_first hB hx).mpr (.inl hs), fun _ => rfl⟩⟩
    by_cases hk : (lk m x).isSome = true
    · rw [lclM_in hs hk]
      obtain ⟨o, ho⟩ := Option.isSome_iff_exists.mp hk
      refine ⟨ht, fun _ _ => rfl, ?_⟩
      rw [ho]; exact ht x o (by omega) ho
    · rw [lclM_out hs hk]
      have t0 : TruB k B x.sum (pt m x false) := fun y o hy ho => by
        have hyx : y ≠ x := fun z => by rw [z] at hy; omega
        rw [lk_pt_ne hyx] at ho; exact ht y o (by omega) ho
      obtain ⟨g1, g2, o, g3, g4⟩ := lclGo_tru (f := vAt (kinds1 x) 0) vb hx (g := lclM B n) (fun b hb hl m' hm' => by
        have hbl := vb.len b hb
        have hbp := vb.ps b hb
        have hss := sub_sum (hx.len.trans hbl.symm)
        exact lclM_tru vb n _ m' (sub_cr hx hbl hl) (by omega) fun y o hy ho => hm' y o (by omega) ho) B (pt m x false) (fun _ h => h) t0 lk_pt_same
      have g5 : o = true ↔ Clr k B x := by
        rw [g4, clr_first hB hx]
        exact ⟨fun h => .inr ⟨hs, h⟩, fun h => h.elim (fun h => absurd h hs) fun h => h.2⟩
      refine ⟨fun y o' hy ho' => ?_, fun y hy => ?_, by rw [g3]; exact g5⟩
      · by_cases c : y.sum < x.sum
        · exact g1 y o' c ho'
        · by_cases e : y = x
          · subst e
            have ho2 : lk (lclGo (lclM B n) y (vAt (kinds1 y) 0) B (pt m y false)) y = some o' := ho'
            rw [g3] at ho2; cases ho2; exact g5
          · have ho2 : lk (lclGo (lclM B n) x (vAt (kinds1 x) 0) B (pt m x false)) y = some o' := ho'
            rw [g2 y (by omega) e, lk_pt_ne e] at ho2
            exact ht y o' hy ho2
      · have e : y ≠ x := fun z => by rw [z] at hy; omega
        show lk (lclGo (lclM B n) x (vAt (kinds1 x) 0) B (pt m x false)) y = lk m y
        rw [g2 y (by omega) e, lk_pt_ne e]
/-! sums by places -/
def Idx (B : List (List Int)) (c : List Int) : Prop := ∀ i ∈ c, 0 ≤ i ∧ i < B.length
theorem sum_cr (vb : VB k B) (h : Idx B c) : CrOk k (sumOf k B c) := (sumOf_cr vb h).1
theorem sum_cat (vb : VB k B) (hc : Idx B c) : ∀ {d : List Int}, Idx B d → sumOf k B (c ++ d) = addL (sumOf k B c) (sumOf k B d) := by
  intro d
  rw [← List.reverse_reverse d]
  generalize d.reverse = d
  induction d with
  | nil => intro _; simp only [List.reverse_nil, List.append_nil, sumOf_nil]; rw [add_zer (sum_cr vb hc).len]
  | cons i d ih =>
    intro hd
    rw [List.reverse_cons] at hd ⊢
    have hd' : Idx B d.reverse := fun q hq => hd q (List.mem_append_left _ hq)
    have hi := hd i (by simp)
    rw [← List.append_assoc, sumOf_snoc, ih hd', sumOf_snoc, add_assoc (sum_cr vb hc).len (sum_cr vb hd').len (vb.len _ (bAt_mem hi))]
theorem sum_clr (vb : VB k B) : ∀ {c : List Int}, Idx B c → Clr k B (sumOf k B c) := by
  intro c
  rw [← List.reverse_reverse c]
  generalize c.reverse = c
  induction c with
  | nil => intro _; rw [List.reverse_nil, sumOf_nil]; exact .zero
  | cons i c ih =>
    intro h
    rw [List.reverse_cons] at h ⊢
    rw [sumOf_snoc]
    exact .add (ih fun q hq => h q (List.mem_append_left _ hq)) (bAt_mem (h i (by simp)))
theorem clr_sum (vb : VB k B) (h : Clr k B x) : ∃ c, Idx B c ∧ sumOf k B c = x := by
  induction h with
  | zero => exact ⟨[], fun _ h => (nomatch h), sumOf_nil⟩
  | add _ hb ih =>
    obtain ⟨c, h1, h2⟩ := ih
    obtain ⟨i, hi, rfl⟩ := mem_at hb
    refine ⟨c ++ [i], fun q hq => ?_, by rw [sumOf_snoc, h2]⟩
    rcases List.mem_append.mp hq with z | z
    · exact h1 q z
    · rw [List.mem_singleton.mp z]; exact hi
theorem sum_pos (vb : VB k B) (hf : 0 ≤ f ∧ f < k) : ∀ {c : List Int}, Idx B c → 0 < vAt (sumOf k B c) f → ∃ i ∈ c, 0 < vAt (bAt B i) f := by
  intro c
  rw [← List.reverse_reverse c]
  generalize c.reverse = c
  induction c with
  | nil => intro _ h; rw [List.reverse_nil, sumOf_nil, vAt_zer] at h; omega
  | cons i c ih =>
    intro hc h
    rw [List.reverse_cons] at hc h ⊢
    have hc' : Idx B c.reverse := fun q hq => hc q (List.mem_append_left _ hq)
    rw [sumOf_snoc, vAt_addL hf (sum_cr vb hc').len (vb.len _ (bAt_mem (hc i (by simp))))] at h
    by_cases p : 0 < vAt (bAt B i) f
    · exact ⟨i, by simp, p⟩
    · obtain ⟨q, hq, h2⟩ := ih hc' (by omega)
      exact ⟨q, List.mem_append_left _ hq, h2⟩
/-! least covers -/
structure MinC (k : Nat) (B : List (List Int)) (wanted a : List Int) : Prop where
  idx : Idx B a
  cov : leB wanted (sumOf k B a) = true
  mn : ∀ i c, a.Perm (i :: c) → leB wanted (sumOf k B c) = false
theorem Idx.perm (h : Idx B a) (p : a.Perm c) : Idx B c := fun i hi => h i (p.mem_iff.mpr hi)
theorem MinC.perm (h : MinC k B wanted a) (p : a.Perm c) : MinC k B wanted c :=
  ⟨h.idx.perm p, by rw [← sumOf_perm p]; exact h.cov, fun i d q => h.mn i d (p.trans q)⟩
theorem leB_more (vb : VB k B) (hw : wanted.length = k) (hc : Idx B c) (hd : Idx B d) (h : leB wanted (sumOf k B c) = true) : leB wanted (sumOf k B (c ++ d)) = true := by
  rw [sum_cat vb hc hd]
  have h1 := (sum_cr vb hc)
  have h2 := (sum_cr vb hd)
  refine (leB_pt hw (add_len h1.len h2.len)).mpr fun j hj => ?_
  rw [vAt_addL hj h1.len h2.len]
  have := (leB_pt hw h1.len).mp h j hj
  have := vAt_nn h2.nn j
  omega
theorem MinC.part (vb : VB k B) (hw : wanted.length = k) (h : MinC k B wanted a) (p : a.Perm (c ++ d)) (hd : d ≠ []) : leB wanted (sumOf k B c) = false := by
  cases d with
  | nil => exact absurd rfl hd
  | cons i d =>
    have hi := h.idx.perm p
    have hc : Idx B c := fun q hq => hi q (List.mem_append_left _ hq)
    have hd' : Idx B d := fun q hq => hi q (by simp [hq])
    have q := h.mn i (c ++ d) (p.trans List.perm_middle)
    cases e : leB wanted (sumOf k B c) with
    | false => rfl
    | true => rw [leB_more vb hw hc hd' e] at q; cases q
/-- what is short can be taken from the rest -/
theorem MinC.ext (vb : VB k B) (hw : wanted.length = k) (h : MinC k B wanted a) (p : a.Perm (c ++ d)) (hd : d ≠ []) : ¬ (short k (sumOf k B c) wanted).length = 0 ∧ ∃ i d', 0 < vAt (bAt B i) (vAt (short k (sumOf k B c) wanted) 0) ∧ (0 ≤ i ∧ i < B.length) ∧ a.Perm ((c ++ [i]) ++ d') := by
  have hi := h.idx.perm p
  have hc : Idx B c := fun q hq => hi q (List.mem_append_left _ hq)
  have hd' : Idx B d := fun q hq => hi q (List.mem_append_right _ hq)
  have h1 := sum_cr vb hc
  have h2 := sum_cr vb hd'
  have hno := h.part vb hw p hd
  have hs : ¬ (short k (sumOf k B c) wanted).length = 0 := fun z => by rw [short_nil h1.len hw z] at hno; cases hno
  refine ⟨hs, ?_⟩
  obtain ⟨hf, hlt⟩ := short_mem.mp (short_hd hs)
  have hcov := h.cov
  rw [sumOf_perm p, sum_cat vb hc hd'] at hcov
  have h3 := (leB_pt hw (add_len h1.len h2.len)).mp hcov _ hf
  rw [vAt_addL hf h1.len h2.len] at h3
  obtain ⟨i, hid, hp⟩ := sum_pos vb hf hd' (by omega)
  refine ⟨i, d.erase i, hp, hd' i hid, p.trans ?_⟩
  rw [List.append_assoc]
  exact (List.perm_cons_erase hid).append_left c
theorem MinC.chain (vb : VB k B) (hw : wanted.length = k) (hn : ∀ y ∈ wanted, 0 ≤ y) (h : MinC k B wanted a) : ∀ n : Nat, n ≤ a.length → ∃ c d, a.Perm (c ++ d) ∧ c.length = n ∧ (n : Int) ≤ gain wanted (sumOf k B c)
  | 0, _ => ⟨[], a, .refl _, rfl, by
    rw [sumOf_nil, zer_def]
    have := gain_zer hn
    rw [hw] at this
    rw [this]; exact Int.le_refl _⟩
  | n + 1, hl => by
    obtain ⟨c, d, p, hc, hg⟩ := h.chain vb hw hn n (by omega)
    have hd : d ≠ [] := fun e => by rw [e, List.append_nil] at p; have := p.length_eq; omega
    obtain ⟨hs, i, d', hp, hi, p2⟩ := h.ext vb hw p hd
    obtain ⟨hf, hlt⟩ := short_mem.mp (short_hd hs)
    have hcx : Idx B c := fun q hq => h.idx.perm p q (List.mem_append_left _ hq)
    refine ⟨c ++ [i], d', p2, by simp [hc], ?_⟩
    rw [sumOf_snoc]
    have h1 := (sum_cr vb hcx).len
    have := gain_step (vAt (short k (sumOf k B c) wanted) 0).toNat (w := sumOf k B c) (wanted := wanted) (b := bAt B i) (by rw [h1, hw]) (by rw [vb.len _ (bAt_mem hi), hw]) (vb.nn _ (bAt_mem hi)) (by unfold vAt at hlt ⊢; exact hlt) (by unfold vAt at hp ⊢; exact hp)
    omega
theorem MinC.len (vb : VB k B) (hw : wanted.length = k) (hn : ∀ y ∈ wanted, 0 ≤ y) (h : MinC k B wanted a) : (a.length : Int) ≤ wanted.sum := by
  obtain ⟨c, d, p, hc, hg⟩ := h.chain vb hw hn a.length (Nat.le_refl _)
  have hcx : Idx B c := fun q hq => h.idx.perm p q (List.mem_append_left _ hq)
  have := gain_le (wanted := wanted) (w := sumOf k B c) (by rw [(sum_cr vb hcx).len, hw])
  omega
/-- a cover holds a least one -/
theorem min_ex (vb : VB k B) (hw : wanted.length = k) : ∀ (n : Nat) (c : List Int), c.length ≤ n → Idx B c → leB wanted (sumOf k B c) = true → ∃ a d, c.Perm (a ++ d) ∧ MinC k B wanted a
  | 0, c, hn, hc, h => by
    have : c = [] := List.length_eq_zero_iff.mp (by omega)
    subst this
    exact ⟨[], [], .refl _, hc, h, fun i d p => by have := p.length_eq; simp at this⟩
  | n + 1, c, hn, hc, h => by
    by_cases hm : ∃ i d, c.Perm (i :: d) ∧ leB wanted (sumOf k B d) = true
    · obtain ⟨i, d, p, hd⟩ := hm
      have hdx : Idx B d := fun q hq => hc.perm p q (List.mem_cons_of_mem _ hq)
      have hl := p.length_eq
      rw [List.length_cons] at hl
      obtain ⟨a, e, p2, h2⟩ := min_ex vb hw n d (by omega) hdx hd
      refine ⟨a, i :: e, p.trans ?_, h2⟩
      exact (p2.cons i).trans List.perm_middle.symm
    · refine ⟨c, [], by rw [List.append_nil], hc, h, fun i d p => ?_⟩
      cases e : leB wanted (sumOf k B d) with
      | false => rfl
      | true => exact absurd ⟨i, d, p, e⟩ hm
end
end N34

set_option Elab.async false
set_option linter.all false
set_option maxRecDepth 100000
/-! plain: the least covers are all found; safe means safe -/
namespace N34
open PySem
section
variable {k : Nat} {B : List (List Int)} {i j f : Int} {a b c d x y z wanted : List Int}
/-! the program's covers -/
theorem cvIn_grow {cover whole : List Int} : ∀ (pre : List (List Int × Nat)) (later : CvL) {c : List Int}, c ∈ later.map (·.1) → c ∈ (pre.foldl (cvIn cover whole f) later).map (·.1)
  | [], _, _, h => h
  | q :: pre, later, c, h => by
    rw [List.foldl_cons]
    refine cvIn_grow pre _ ?_
    unfold cvIn
    split
    · exact key_pt.mpr (.inl h)
    · exact h
theorem cvStep_grow {st : CvF × CvL} {p : List Int × List Int} : (∀ c ∈ st.1.map (·.1), c ∈ (cvStep k B wanted st p).1.map (·.1)) ∧ ∀ c ∈ st.2.map (·.1), c ∈ (cvStep k B wanted st p).2.map (·.1) := by
  unfold cvStep
  split
  · refine ⟨fun c h => ?_, fun c h => h⟩
    show c ∈ (if needless B wanted p.1 p.2 = true then st.1 else pt st.1 p.1 ()).map (·.1)
    split
    · exact h
    · exact key_pt.mpr (.inl h)
  · exact ⟨fun c h => h, fun c h => cvIn_grow _ _ h⟩
theorem cvFold_grow : ∀ (pre : CvL) (st : CvF × CvL), (∀ c ∈ st.1.map (·.1), c ∈ (pre.foldl (cvStep k B wanted) st).1.map (·.1)) ∧ ∀ c ∈ st.2.map (·.1), c ∈ (pre.foldl (cvStep k B wanted) st).2.map (·.1)
  | [], st => ⟨fun _ h => h, fun _ h => h⟩
  | p :: pre, st => by
    obtain ⟨h1, h2⟩ := cvStep_grow (k := k) (B := B) (wanted := wanted) (st := st) (p := p)
    obtain ⟨h3, h4⟩ := cvFold_grow pre (cvStep k B wanted st p)
    exact ⟨fun c h => h3 c (h1 c h), fun c h => h4 c (h2 c h)⟩
theorem cvLoop_grow : ∀ (n : Nat) (fresh : CvL) (found : CvF) {c : List Int}, c ∈ found.map (·.1) → c ∈ (cvLoop k B wanted n fresh found).map (·.1)
  | 0, _, _, _, h => h
  | n + 1, fresh, found, c, h => by
    by_cases hf : fresh.length = 0
    · rw [List.length_eq_zero_iff.mp hf, cvLoop_nil]; exact h
    · rw [cvLoop_succ hf]
      exact cvLoop_grow n _ _ ((cvFold_grow fresh (found, [])).1 c h)
theorem cvIn_has {cover whole : List Int} {q : List Int × Nat} (hp : 0 < vAt q.1 f) : ∀ (pre : List (List Int × Nat)) (later : CvL), q ∈ pre → isort (cover ++ [(q.2 : Int)]) ∈ (pre.foldl (cvIn cover whole f) later).map (·.1)
  | r :: pre, later, h => by
    rw [List.foldl_cons]
    rcases List.mem_cons.mp h with e | e
    · rw [← e]
      refine cvIn_grow pre _ ?_
      unfold cvIn
      rw [if_pos hp]
      exact key_pt.mpr (.inr rfl)
    · exact cvIn_has hp pre _ e
theorem short_of (hw : wanted.length = k) (hx : x.length = k) (h : leB wanted x = true) : (short k x wanted).length = 0 := by
  cases e : short k x wanted with
  | nil => rfl
  | cons i l =>
    have hm : i ∈ short k x wanted := by rw [e]; exact List.mem_cons_self
    obtain ⟨h1, h2⟩ := short_mem.mp hm
    have := (leB_pt hw hx).mp h i h1
    omega
theorem needless_of (vb : VB k B) (h : MinC k B wanted a) : needless B wanted a (sumOf k B a) = false := by
  unfold needless
  rw [← Bool.not_eq_true, List.any_eq_true]
  rintro ⟨t, ht, e⟩
  obtain ⟨i, hi, rfl⟩ := List.mem_map.mp ht
  have p := List.perm_cons_erase hi
  have hx := h.idx.perm p
  have he : Idx B (a.erase i) := fun q hq => hx q (List.mem_cons_of_mem _ hq)
  have hi2 := hx i List.mem_cons_self
  have p2 : a.Perm (a.erase i ++ [i]) := p.trans (List.perm_append_comm (l₁ := [i]))
  have q := h.mn i _ p
  rw [sumOf_perm p2, sumOf_snoc, add_sub (sum_cr vb he).len (vb.len _ (bAt_mem hi2))] at e
  have e' : leB wanted (sumOf k B (a.erase i)) = true := e
  rw [q] at e'; cases e'
theorem cvStep_no {st : CvF × CvL} {p : List Int × List Int} (hs : ¬ (short k p.2 wanted).length = 0) : cvStep k B wanted st p = (st.1, B.zipIdx.foldl (cvIn p.1 p.2 (vAt (short k p.2 wanted) 0)) st.2) := by unfold cvStep; rw [if_neg hs]
theorem cvLoop_has (vb : VB k B) (hw : wanted.length = k) (h : MinC k B wanted a) : ∀ (n j : Nat) (fresh : CvL) (found : CvF) (d : List Int), wanted.sum + 1 ≤ (n : Int) + j → CvG k B wanted j fresh found → (∃ p ∈ fresh, a.Perm (p.1 ++ d)) → ∃ c ∈ (cvLoop k B wanted n fresh found).map (·.1), a.Perm c
  | 0, j, fresh, found, d, hn, g, ⟨p, hp, _⟩ => by
    have := g.inv.lvl hw (by intro e; rw [List.length_eq_zero_iff.mp e] at hp; cases hp)
    omega
  | n + 1, j, fresh, found, d, hn, g, ⟨p, hp, hd⟩ => by
    have hf : ¬ fresh.length = 0 := by intro e; rw [List.length_eq_zero_iff.mp e] at hp; cases hp
    rw [cvLoop_succ hf]
    have hsm := g.sm p hp
    obtain ⟨u, v, huv⟩ := List.append_of_mem hp
    have hc : Idx B p.1 := fun q hq => h.idx.perm hd q (List.mem_append_left _ hq)
    by_cases hdn : d = []
    · subst hdn
      rw [List.append_nil] at hd
      have hm := h.perm hd
      refine ⟨p.1, cvLoop_grow n _ _ ?_, hd⟩
      rw [huv, List.foldl_append, List.foldl_cons]
      refine (cvFold_grow v _).1 p.1 ?_
      unfold cvStep
      rw [hsm, if_pos (short_of hw (sum_cr vb hc).len hm.cov)]
      show p.1 ∈ (if needless B wanted p.1 (sumOf k B p.1) = true then _ else pt _ p.1 ()).map (·.1)
      rw [needless_of vb hm, if_neg (by decide)]
      exact key_pt.mpr (.inr rfl)
    · obtain ⟨hs, i, d', hpos, hi, hpm⟩ := h.ext vb hw hd hdn
      have hk : isort (p.1 ++ [i]) ∈ (fresh.foldl (cvStep k B wanted) (found, [])).2.map (·.1) := by
        rw [huv, List.foldl_append, List.foldl_cons]
        refine (cvFold_grow v _).2 _ ?_
        rw [cvStep_no (by rw [hsm]; exact hs), hsm]
        have hg : B[i.toNat]? = some (bAt B i) := by
          unfold bAt
          rw [List.getElem?_eq_getElem (by omega)]; rfl
        have := cvIn_has (cover := p.1) (whole := sumOf k B p.1) (q := (bAt B i, i.toNat)) hpos B.zipIdx (u.foldl (cvStep k B wanted) (found, [])).2 (List.mem_zipIdx_iff_getElem?.mpr hg)
        rw [show (((bAt B i, i.toNat) : List Int × Nat).2 : Int) = i by simp; omega] at this
        exact this
      obtain ⟨p2, hp2, e⟩ := List.mem_map.mp hk
      exact cvLoop_has vb hw h n (j + 1) _ _ d' (by omega) (g.step vb hw) ⟨p2, hp2, hpm.trans ((by rw [e]; exact (isort_perm _).symm : (p.1 ++ [i]).Perm p2.1).append_right d')⟩
theorem covers_has (vb : VB k B) (hw : wanted.length = k) (hn : ∀ y ∈ wanted, 0 ≤ y) (h : MinC k B wanted a) : ∃ c ∈ covers k B wanted, a.Perm c := by
  obtain ⟨c, hc, p⟩ := cvLoop_has vb hw h (wanted.sum.toNat + 2) 0 _ _ a (by have := sum_nn hn; omega) (CvG.zero hw hn) ⟨([], zer k), by simp, .refl _⟩
  exact ⟨c, by unfold covers; exact vsort_mem.mpr hc, p⟩
/-! the law's covers -/
theorem lcvIn_grow {row whole : List Int} : ∀ (pre : List Int) (st : LC), (∀ p ∈ st.1, p ∈ (pre.foldl (lcvIn B wanted row whole) st).1) ∧ ∀ c ∈ st.2, c ∈ (pre.foldl (lcvIn B wanted row whole) st).2
  | [], st => ⟨fun _ h => h, fun _ h => h⟩
  | i :: pre, st => by
    obtain ⟨h1, h2⟩ := lcvIn_grow pre (lcvIn B wanted row whole st i)
    have h3 : (∀ p ∈ st.1, p ∈ (lcvIn B wanted row whole st i).1) ∧ ∀ c ∈ st.2, c ∈ (lcvIn B wanted row whole st i).2 := by
      unfold lcvIn
      simp only
      split
      · split
        · exact ⟨fun _ h => h, fun c h => List.mem_append_left _ h⟩
        · exact ⟨fun _ h => h, fun _ h => h⟩
      · exact ⟨fun p h => List.mem_append_left _ h, fun _ h => h⟩
    exact ⟨fun p h => h1 p (h3.1 p h), fun c h => h2 c (h3.2 c h)⟩
theorem lcvFold_grow : ∀ (pre : List (List Int × List Int)) (st : LC), (∀ p ∈ st.1, p ∈ (pre.foldl (lcvStep B wanted) st).1) ∧ ∀ c ∈ st.2, c ∈ (pre.foldl (lcvStep B wanted) st).2
  | [], st => ⟨fun _ h => h, fun _ h => h⟩
  | q :: pre, st => by
    obtain ⟨h1, h2⟩ := lcvFold_grow pre (lcvStep B wanted st q)
    rw [lcvStep_def] at h1 h2
    obtain ⟨h3, h4⟩ := lcvIn_grow (B := B) (wanted := wanted) (row := q.1) (whole := q.2) (latsM B wanted q.1) st
    rw [List.foldl_cons, lcvStep_def]
    exact ⟨fun p h => h1 p (h3 p h), fun c h => h2 c (h4 c h)⟩
theorem lcvLoop_grow : ∀ (n : Nat) (last : List (List Int × List Int)) (found : List (List Int)) {c : List Int}, c ∈ found → c ∈ lcvLoop B wanted n last found
  | 0, _, _, _, h => h
  | n + 1, last, found, c, h => by
    by_cases hf : last.length = 0
    · rw [List.length_eq_zero_iff.mp hf, lcvLoop_nil]; exact h
    · rw [lcvLoop_succ hf]
      exact lcvLoop_grow n _ _ ((lcvFold_grow last ([], found)).2 c h)
/-- a place of a least cover shares a kind with what is wanted -/
theorem some_of (vb : VB k B) (hw : wanted.length = k) (hn : ∀ y ∈ wanted, 0 ≤ y) (h : MinC k B wanted a) (hi : i ∈ a) : i ∈ lsome B wanted := by
  have p := List.perm_cons_erase hi
  have hx := h.idx.perm p
  have he : Idx B (a.erase i) := fun q hq => hx q (List.mem_cons_of_mem _ hq)
  have hi2 := hx i List.mem_cons_self
  have p2 : a.Perm (a.erase i ++ [i]) := p.trans (List.perm_append_comm (l₁ := [i]))
  have hbl := vb.len _ (bAt_mem hi2)
  have hne : ∃ j : Int, (0 ≤ j ∧ j < k) ∧ 0 < vAt (bAt B i) j ∧ 0 < vAt wanted j := by
    refine Classical.byContradiction fun hno => ?_
    have q := h.mn i _ p
    have hc := h.cov
    rw [sumOf_perm p2, sumOf_snoc] at hc
    have h1 := (sum_cr vb he).len
    have : leB wanted (sumOf k B (a.erase i)) = true := (leB_pt hw h1).mpr fun j hj => by
      have h2 := (leB_pt hw (add_len h1 hbl)).mp hc j hj
      rw [vAt_addL hj h1 hbl] at h2
      have h3 := vAt_nn (sum_cr vb he).nn j
      by_cases c1 : 0 < vAt (bAt B i) j
      · have : ¬ 0 < vAt wanted j := fun z => hno ⟨j, hj, c1, z⟩
        omega
      · omega
    rw [q] at this; cases this
  obtain ⟨j, hj, h1, h2⟩ := hne
  have hg : B[i.toNat]? = some (bAt B i) := by
    unfold bAt
    rw [List.getElem?_eq_getElem (by omega)]; rfl
  unfold lsome
  refine List.mem_map.mpr ⟨(bAt B i, i.toNat), List.mem_filter.mpr ⟨List.mem_zipIdx_iff_getElem?.mpr hg, ?_⟩, by simp; omega⟩
  have hm : (vAt (bAt B i) j, j.toNat) ∈ ((bAt B i).zipIdx.filter fun z => decide (0 < z.1) && decide (0 < vAt wanted (z.2 : Nat))) := by
    refine List.mem_filter.mpr ⟨List.mem_zipIdx_iff_getElem?.mpr (at_lt hj hbl), ?_⟩
    show (decide (0 < vAt (bAt B i) j) && decide (0 < vAt wanted (j.toNat : Nat))) = true
    rw [Int.toNat_of_nonneg hj.1, decide_eq_true h1, decide_eq_true h2]; rfl
  rw [Bool.not_eq_true', decide_eq_false_iff_not]
  intro e
  rw [List.map_eq_nil_iff] at e
  have e' : ((bAt B i).zipIdx.filter fun z => decide (0 < z.1) && decide (0 < vAt wanted (z.2 : Nat))) = [] := e
  rw [e'] at hm; cases hm
theorem lastI_take {s : List Int} {n : Nat} (h : n < s.length) : lastI (s.take (n + 1)) = s[n] := by
  unfold lastI
  rw [List.getLast?_take]
  simp [h]
theorem lcvLoop_has (vb : VB k B) (hw : wanted.length = k) (hn : ∀ y ∈ wanted, 0 ≤ y) {s : List Int} (h : MinC k B wanted s) (hp : s.Pairwise (· ≤ ·)) : ∀ (n j : Nat) (last : List (List Int × List Int)) (found : List (List Int)), s.length ≤ n + j → j < s.length → (s.take j, sumOf k B (s.take j)) ∈ last → s ∈ lcvLoop B wanted n last found
  | 0, j, last, found, h1, h2, _ => by omega
  | n + 1, j, last, found, h1, h2, hm => by
    have hf : ¬ last.length = 0 := by intro e; rw [List.length_eq_zero_iff.mp e] at hm; cases hm
    rw [lcvLoop_succ hf]
    obtain ⟨u, v, huv⟩ := List.append_of_mem hm
    have hlen := h.len vb hw hn
    have hsj : s[j] ∈ s := List.getElem_mem h2
    have hti : s.take (j + 1) = s.take j ++ [s[j]] := by rw [List.take_append_getElem h2]
    have hat : s[j] ∈ latsM B wanted (s.take j) := by
      refine List.mem_filter.mpr ⟨some_of vb hw hn h hsj, ?_⟩
      cases j with
      | zero => simp
      | succ m =>
        rw [lastI_take (by omega)]
        have := (List.pairwise_iff_getElem.mp hp) m (m + 1) (by omega) h2 (by omega)
        simp; exact .inr this
    obtain ⟨u2, v2, huv2⟩ := List.append_of_mem hat
    have hsum : addL (sumOf k B (s.take j)) (bAt B s[j]) = sumOf k B (s.take (j + 1)) := by rw [hti, sumOf_snoc]
    have stepIn : ∀ st : LC, (j + 1 < s.length → (s.take (j + 1), sumOf k B (s.take (j + 1))) ∈ (lcvIn B wanted (s.take j) (sumOf k B (s.take j)) st s[j]).1) ∧ (j + 1 = s.length → s ∈ (lcvIn B wanted (s.take j) (sumOf k B (s.take j)) st s[j]).2) := by
      intro st
      constructor
      · intro hl
        have hno : leB wanted (sumOf k B (s.take (j + 1))) = false := h.part vb hw (c := s.take (j + 1)) (d := s.drop (j + 1)) (by rw [List.take_append_drop]) (fun e => by have := congrArg List.length e; simp at this; omega)
        unfold lcvIn
        simp only
        rw [hsum, if_neg (by rw [hno]; decide)]
        refine List.mem_append_right _ ?_
        rw [if_pos (by rw [List.length_take]; omega), hti]
        exact List.mem_singleton.mpr rfl
      · intro hl
        have hfull : s.take (j + 1) = s := by rw [hl, List.take_length]
        unfold lcvIn
        simp only
        rw [hsum, hfull, if_pos h.cov, if_pos]
        · refine List.mem_append_right _ (List.mem_singleton.mpr ?_)
          rw [← hti, hfull]
        · refine List.filter_eq_nil_iff.mpr fun i hi => ?_
          have his : i ∈ s := List.mem_of_mem_take hi
          have p := List.perm_cons_erase his
          have hx := h.idx.perm p
          have he : Idx B (s.erase i) := fun q hq => hx q (List.mem_cons_of_mem _ hq)
          have p2 : s.Perm (s.erase i ++ [i]) := p.trans (List.perm_append_comm (l₁ := [i]))
          rw [sumOf_perm p2, sumOf_snoc, add_sub (sum_cr vb he).len (vb.len _ (bAt_mem (hx i List.mem_cons_self))), h.mn i _ p]
          decide
    have stepAll : ∀ st : LC, (j + 1 < s.length → (s.take (j + 1), sumOf k B (s.take (j + 1))) ∈ (lcvStep B wanted st (s.take j, sumOf k B (s.take j))).1) ∧ (j + 1 = s.length → s ∈ (lcvStep B wanted st (s.take j, sumOf k B (s.take j))).2) := by
      intro st
      rw [lcvStep_def]
      show (j + 1 < s.length → _ ∈ ((latsM B wanted (s.take j)).foldl (lcvIn B wanted (s.take j) (sumOf k B (s.take j))) st).1) ∧ (j + 1 = s.length → _ ∈ ((latsM B wanted (s.take j)).foldl (lcvIn B wanted (s.take j) (sumOf k B (s.take j))) st).2)
      rw [huv2, List.foldl_append, List.foldl_cons]
      obtain ⟨g1, g2⟩ := stepIn (u2.foldl (lcvIn B wanted (s.take j) (sumOf k B (s.take j))) st)
      obtain ⟨g3, g4⟩ := lcvIn_grow (B := B) (wanted := wanted) (row := s.take j) (whole := sumOf k B (s.take j)) v2 (lcvIn B wanted (s.take j) (sumOf k B (s.take j)) (u2.foldl (lcvIn B wanted (s.take j) (sumOf k B (s.take j))) st) s[j])
      exact ⟨fun hl => g3 _ (g1 hl), fun hl => g4 _ (g2 hl)⟩
    have stepF : (j + 1 < s.length → (s.take (j + 1), sumOf k B (s.take (j + 1))) ∈ (last.foldl (lcvStep B wanted) ([], found)).1) ∧ (j + 1 = s.length → s ∈ (last.foldl (lcvStep B wanted) ([], found)).2) := by
      rw [huv, List.foldl_append, List.foldl_cons]
      obtain ⟨g1, g2⟩ := stepAll (u.foldl (lcvStep B wanted) ([], found))
      obtain ⟨g3, g4⟩ := lcvFold_grow (B := B) (wanted := wanted) v (lcvStep B wanted (u.foldl (lcvStep B wanted) ([], found)) (s.take j, sumOf k B (s.take j)))
      exact ⟨fun hl => g3 _ (g1 hl), fun hl => g4 _ (g2 hl)⟩
    by_cases hl : j + 1 < s.length
    · exact lcvLoop_has vb hw hn h hp n (j + 1) _ _ (by omega) hl (stepF.1 hl)
    · exact lcvLoop_grow n _ _ (stepF.2 (by omega))
theorem lcovers_has (vb : VB k B) (hw : wanted.length = k) (hn : ∀ y ∈ wanted, 0 ≤ y) (h : MinC k B wanted a) (hne : a ≠ []) : ∃ c ∈ lcovers k B wanted, a.Perm c := by
  have h2 := h.perm (isort_perm a).symm
  have hl := h2.len vb hw hn
  have hpos : 0 < (isort a).length := by rw [(isort_perm a).length_eq]; exact List.length_pos_iff.mpr hne
  refine ⟨isort a, ?_, (isort_perm a).symm⟩
  unfold lcovers
  exact vsort_mem.mpr (lcvLoop_has vb hw hn h2 (isort_pw a) (wanted.sum.toNat + 2) 0 _ [] (by omega) hpos (by rw [List.take_zero, sumOf_nil]; simp))
end
end N34

set_option Elab.async false
set_option linter.all false
set_option maxRecDepth 100000
/-! plain: what both tests of safety say -/
namespace N34
open PySem
section
variable {k : Nat} {B : List (List Int)} {i j f : Int} {a b c d x y z wanted lot : List Int}
def SafeP (k : Nat) (B : List (List Int)) : Prop := ∀ x, Clr k B x → ∀ b ∈ B, leB b x = true → Clr k B (subL x b)
theorem SafeP.of {B' : List (List Int)} (h : ∀ b, b ∈ B ↔ b ∈ B') (s : SafeP k B) : SafeP k B' := fun x hx b hb hl =>
  (s x (hx.mono fun b hb => (h b).mpr hb) b ((h b).mpr hb) hl).mono fun b hb => (h b).mp hb
theorem SafeP.congr {B' : List (List Int)} (h : ∀ b, b ∈ B ↔ b ∈ B') : SafeP k B ↔ SafeP k B' := ⟨fun s => s.of h, fun s => s.of fun b => (h b).symm⟩
/-- least covers suffice -/
theorem safe_by (vb : VB k B) {cs : List Int → List (List Int)} (h1 : ∀ b ∈ B, ∀ c ∈ cs b, Idx B c ∧ leB b (sumOf k B c) = true) (h2 : ∀ b ∈ B, ∀ a, MinC k B b a → ∃ c ∈ cs b, a.Perm c) : SafeP k B ↔ ∀ b ∈ B, ∀ c ∈ cs b, Clr k B (subL (sumOf k B c) b) := by
  constructor
  · intro s b hb c hc
    obtain ⟨g1, g2⟩ := h1 b hb c hc
    exact s _ (sum_clr vb g1) b hb g2
  · intro s x hx b hb hl
    obtain ⟨c0, hc0, rfl⟩ := clr_sum vb hx
    obtain ⟨a, d, p, hm⟩ := min_ex vb (vb.len b hb) c0.length c0 (Nat.le_refl _) hc0 hl
    obtain ⟨c, hc, q⟩ := h2 b hb a hm
    have hi := hc0.perm p
    have ha : Idx B a := hm.idx
    have hd : Idx B d := fun r hr => hi r (List.mem_append_right _ hr)
    have g := s b hb c hc
    rw [← sumOf_perm q] at g
    rw [sumOf_perm p, sum_cat vb ha hd, sub_add2 (sum_cr vb ha).len (sum_cr vb hd).len (vb.len b hb)]
    exact g.app vb.mem (sum_clr vb hd)
/-! the program's -/
def TruA (k : Nat) (B : List (List Int)) (m : Kn) : Prop := ∀ y o, lk m y = some o → (o.isSome = true ↔ Clr k B y)
theorem TruA.step (vb : VB k B) {m : Kn} (h : TruA k B m) (hx : CrOk k x) (h20 : x.sum < 20) : TruA k B (clrM B 20 x m) ∧ ((lkN (clrM B 20 x m) x).isSome = true ↔ Clr k B x) := by
  have sp := clrM_tru vb 20 x m hx (by omega) fun y o _ ho => h y o ho
  constructor
  · intro y o ho
    by_cases c : y.sum < x.sum + 1
    · exact sp.tru y o c ho
    · rw [sp.frm y (by omega)] at ho; exact h y o ho
  · obtain ⟨o, ho, hi⟩ := sp.has
    unfold lkN
    rw [ho]; exact hi
theorem rest_ok (vb : VB k B) (hb : b ∈ B) (hc : Idx B c) (hl : leB b (sumOf k B c) = true) (h4 : c.length ≤ 4) : CrOk k (subL (sumOf k B c) b) ∧ (subL (sumOf k B c) b).sum < 20 := by
  obtain ⟨h1, h2⟩ := sumOf_cr vb hc
  have hbl := vb.len b hb
  have hs := sub_sum (h1.len.trans hbl.symm)
  have := vb.ps b hb
  exact ⟨sub_cr h1 hbl hl, by omega⟩
theorem lvIn_foldT (vb : VB k B) {q : List Int × Nat} (hq : q.1 ∈ B) : ∀ (cs : List (List Int)) (st : Lv × Kn), (∀ c ∈ cs, Idx B c ∧ leB q.1 (sumOf k B c) = true ∧ c.length ≤ 4) → TruA k B st.2 → TruA k B (cs.foldl (lvIn k B q) st).2 ∧ ((∀ z ∈ (cs.foldl (lvIn k B q) st).1, z.2.2.isSome = true) ↔ (∀ z ∈ st.1, z.2.2.isSome = true) ∧ ∀ c ∈ cs, Clr k B (subL (sumOf k B c) q.1))
  | [], st, _, h => ⟨h, by simp⟩
  | c :: cs, st, hcs, h => by
    obtain ⟨h1, h2, h3⟩ := hcs c List.mem_cons_self
    obtain ⟨r1, r2⟩ := rest_ok vb hq h1 h2 h3
    obtain ⟨t1, t2⟩ := h.step vb r1 r2
    have e : lvIn k B q st c = (st.1 ++ [((q.2 : Int), c, lkN (clrM B 20 (subL (sumOf k B c) q.1) st.2) (subL (sumOf k B c) q.1))], clrM B 20 (subL (sumOf k B c) q.1) st.2) := by unfold lvIn; rfl
    obtain ⟨g1, g2⟩ := lvIn_foldT vb hq cs (lvIn k B q st c) (fun c hc => hcs c (List.mem_cons_of_mem _ hc)) (by rw [e]; exact t1)
    rw [List.foldl_cons]
    refine ⟨g1, ?_⟩
    rw [g2, e]
    constructor
    · rintro ⟨a1, a2⟩
      refine ⟨fun z hz => a1 z (List.mem_append_left _ hz), fun d hd => ?_⟩
      rcases List.mem_cons.mp hd with w | w
      · rw [w]; exact t2.mp (a1 _ (List.mem_append_right _ (List.mem_singleton.mpr rfl)))
      · exact a2 d w
    · rintro ⟨a1, a2⟩
      refine ⟨fun z hz => ?_, fun d hd => a2 d (List.mem_cons_of_mem _ hd)⟩
      rcases List.mem_append.mp hz with w | w
      · exact a1 z w
      · rw [List.mem_singleton.mp w]; exact t2.mpr (a2 c List.mem_cons_self)
theorem cov_len (vb : VB k B) (hb : b ∈ B) (hc : c ∈ covers k B b) : Idx B c ∧ leB b (sumOf k B c) = true ∧ c.length ≤ 4 := by
  have h := covers_ok vb (vb.len b hb) (vb.nn b hb) hc
  have h4 := vb.sm b hb
  have := h.len
  exact ⟨h.idx, h.cov, by omega⟩
theorem lvStep_fold2 (vb : VB k B) : ∀ (qs : List (List Int × Nat)) (st : Lv × Kn), (∀ q ∈ qs, q.1 ∈ B) → TruA k B st.2 → TruA k B (qs.foldl (lvStep k B) st).2 ∧ ((∀ z ∈ (qs.foldl (lvStep k B) st).1, z.2.2.isSome = true) ↔ (∀ z ∈ st.1, z.2.2.isSome = true) ∧ ∀ q ∈ qs, ∀ c ∈ covers k B q.1, Clr k B (subL (sumOf k B c) q.1))
  | [], st, _, h => ⟨h, by simp⟩
  | q :: qs, st, hq, h => by
    have hb := hq q List.mem_cons_self
    obtain ⟨t1, t2⟩ := lvIn_foldT vb hb (covers k B q.1) st (fun c hc => cov_len vb hb hc) h
    have e : lvStep k B st q = (covers k B q.1).foldl (lvIn k B q) st := by unfold lvStep; rfl
    obtain ⟨g1, g2⟩ := lvStep_fold2 vb qs (lvStep k B st q) (fun r hr => hq r (List.mem_cons_of_mem _ hr)) (by rw [e]; exact t1)
    rw [List.foldl_cons]
    refine ⟨g1, ?_⟩
    rw [g2, e, t2]
    constructor
    · rintro ⟨⟨a1, a2⟩, a3⟩
      exact ⟨a1, fun r hr => (List.mem_cons.mp hr).elim (fun w => by rw [w]; exact a2) fun w => a3 r w⟩
    · rintro ⟨a1, a2⟩
      exact ⟨⟨a1, a2 q List.mem_cons_self⟩, fun r hr => a2 r (List.mem_cons_of_mem _ hr)⟩
theorem safeM_iff (vb : VB k B) : safeM k B = true ↔ SafeP k B := by
  have e : safeM k B = ((leavesM k B).map fun z => z.2.2.isSome).all id := by unfold safeM; rfl
  have e2 : leavesM k B = (B.zipIdx.foldl (lvStep k B) ([], [])).1 := by unfold leavesM; rfl
  obtain ⟨_, h⟩ := lvStep_fold2 vb B.zipIdx ([], []) (fun q hq => (zipIdx_mem hq).1) (fun y o ho => by unfold lk at ho; simp at ho)
  rw [e, List.all_eq_true, e2]
  have h2 : (∀ t ∈ (B.zipIdx.foldl (lvStep k B) ([], [])).1.map (fun z : Int × List Int × Option (List Int) => z.2.2.isSome), id t = true) ↔ ∀ z ∈ (B.zipIdx.foldl (lvStep k B) ([], [])).1, z.2.2.isSome = true := ⟨fun h z hz => h _ (List.mem_map.mpr ⟨z, hz, rfl⟩), fun h t ht => by obtain ⟨z, hz, rfl⟩ := List.mem_map.mp ht; exact h z hz⟩
  rw [h2, h, safe_by vb (cs := covers k B) (fun b hb c hc => ⟨(cov_len vb hb hc).1, (cov_len vb hb hc).2.1⟩) fun b hb a hm => covers_has vb (vb.len b hb) (vb.nn b hb) hm]
  constructor
  · rintro ⟨_, h3⟩ b hb c hc
    obtain ⟨n, hn⟩ := List.getElem?_of_mem hb
    exact h3 (b, n) (List.mem_zipIdx_iff_getElem?.mpr hn) c hc
  · intro h3
    exact ⟨by simp, fun q hq c hc => h3 q.1 (zipIdx_mem hq).1 c hc⟩
/-! the law's -/
def TruAB (k : Nat) (B : List (List Int)) (m : Kb) : Prop := ∀ y o, lk m y = some o → (o = true ↔ Clr k B y)
theorem TruAB.step (vb : VB k B) {m : Kb} (h : TruAB k B m) (hx : CrOk k x) (h20 : x.sum < 20) : TruAB k B (lclM B 20 x m).2 ∧ ((lclM B 20 x m).1 = true ↔ Clr k B x) := by
  have sp := lclM_tru vb 20 x m hx (by omega) fun y o _ ho => h y o ho
  refine ⟨fun y o ho => ?_, sp.res⟩
  by_cases c : y.sum < x.sum + 1
  · exact sp.tru y o c ho
  · rw [sp.frm y (by omega)] at ho; exact h y o ho
theorem lwsIn_foldT (vb : VB k B) (hb : b ∈ B) : ∀ (cs : List (List Int)) (st : List (List Int) × Kb), (∀ c ∈ cs, Idx B c ∧ leB b (sumOf k B c) = true ∧ c.length ≤ 4) → TruAB k B st.2 → TruAB k B (cs.foldl (lwsIn k B b) st).2 ∧ ((cs.foldl (lwsIn k B b) st).1 = [] ↔ st.1 = [] ∧ ∀ c ∈ cs, Clr k B (subL (sumOf k B c) b))
  | [], st, _, h => ⟨h, by simp⟩
  | c :: cs, st, hcs, h => by
    obtain ⟨h1, h2, h3⟩ := hcs c List.mem_cons_self
    obtain ⟨r1, r2⟩ := rest_ok vb hb h1 h2 h3
    obtain ⟨t1, t2⟩ := h.step vb r1 r2
    have e : lwsIn k B b st c = (if (lclM B 20 (subL (sumOf k B c) b) st.2).1 then st.1 else st.1 ++ [sumOf k B c], (lclM B 20 (subL (sumOf k B c) b) st.2).2) := by unfold lwsIn; rfl
    obtain ⟨g1, g2⟩ := lwsIn_foldT vb hb cs (lwsIn k B b st c) (fun c hc => hcs c (List.mem_cons_of_mem _ hc)) (by rw [e]; exact t1)
    rw [List.foldl_cons]
    refine ⟨g1, ?_⟩
    rw [g2, e]
    by_cases hr : (lclM B 20 (subL (sumOf k B c) b) st.2).1 = true
    · simp only [if_pos hr]
      constructor
      · rintro ⟨a1, a2⟩
        exact ⟨a1, fun d hd => (List.mem_cons.mp hd).elim (fun w => by rw [w]; exact t2.mp hr) fun w => a2 d w⟩
      · rintro ⟨a1, a2⟩
        exact ⟨a1, fun d hd => a2 d (List.mem_cons_of_mem _ hd)⟩
    · simp only [if_neg hr]
      constructor
      · rintro ⟨a1, _⟩
        simp at a1
      · rintro ⟨_, a2⟩
        exact absurd (t2.mpr (a2 c List.mem_cons_self)) hr
theorem lcov_len (vb : VB k B) (hb : b ∈ B) (hc : c ∈ lcovers k B b) : Idx B c ∧ leB b (sumOf k B c) = true ∧ c.length ≤ 4 := by
  have h4 := vb.sm b hb
  have h := (lcovers_all vb (vb.ps b hb) h4).1 c hc
  have := h.len
  exact ⟨h.idx, h.cov, by omega⟩
theorem lwsStep_foldT (vb : VB k B) : ∀ (bs : List (List Int)) (st : List (List Int) × Kb), (∀ b ∈ bs, b ∈ B) → TruAB k B st.2 → TruAB k B (bs.foldl (lwsStep k B) st).2 ∧ ((bs.foldl (lwsStep k B) st).1 = [] ↔ st.1 = [] ∧ ∀ b ∈ bs, ∀ c ∈ lcovers k B b, Clr k B (subL (sumOf k B c) b))
  | [], st, _, h => ⟨h, by simp⟩
  | b :: bs, st, hbs, h => by
    have hb := hbs b List.mem_cons_self
    obtain ⟨t1, t2⟩ := lwsIn_foldT vb hb (lcovers k B b) st (fun c hc => lcov_len vb hb hc) h
    have e : lwsStep k B st b = (lcovers k B b).foldl (lwsIn k B b) st := by unfold lwsStep; rfl
    obtain ⟨g1, g2⟩ := lwsStep_foldT vb bs (lwsStep k B st b) (fun r hr => hbs r (List.mem_cons_of_mem _ hr)) (by rw [e]; exact t1)
    rw [List.foldl_cons]
    refine ⟨g1, ?_⟩
    rw [g2, e, t2]
    constructor
    · rintro ⟨⟨a1, a2⟩, a3⟩
      exact ⟨a1, fun r hr => (List.mem_cons.mp hr).elim (fun w => by rw [w]; exact a2) fun w => a3 r w⟩
    · rintro ⟨a1, a2⟩
      exact ⟨⟨a1, a2 b List.mem_cons_self⟩, fun r hr => a2 r (List.mem_cons_of_mem _ hr)⟩
theorem min_ne (vb : VB k B) (hb : b ∈ B) (h : MinC k B b a) : a ≠ [] := fun e => by
  have hc := h.cov
  rw [e, sumOf_nil] at hc
  have hp := vb.ps b hb
  have : b = zer k := ext_vAt (vb.len b hb) zer_len fun j h1 h2 => by
    have h3 := (leB_pt (vb.len b hb) zer_len).mp hc j ⟨h1, h2⟩
    have h4 := vAt_nn (vb.nn b hb) j
    rw [vAt_zer] at h3 ⊢
    omega
  rw [this, zer_sum] at hp
  omega
theorem wrong_iff (vb : VB k B) : wrongM k B = [] ↔ SafeP k B := by
  have e : wrongM k B = (B.foldl (lwsStep k B) ([], [])).1 := by unfold wrongM; rfl
  obtain ⟨_, h⟩ := lwsStep_foldT vb B ([], []) (fun _ h => h) (fun y o ho => by unfold lk at ho; simp at ho)
  rw [e, h, safe_by vb (cs := lcovers k B) (fun b hb c hc => ⟨(lcov_len vb hb hc).1, (lcov_len vb hb hc).2.1⟩) fun b hb a hm => lcovers_has vb (vb.len b hb) (vb.nn b hb) hm (min_ne vb hb hm)]
  simp
abbrev sureM (k : Nat) (B : List (List Int)) : Bool := decide (wrongM k B = [])
theorem sure_iff (vb : VB k B) : sureM k B = true ↔ SafeP k B := by rw [decide_eq_true_eq]; exact wrong_iff vb
theorem safe_wrong (vb : VB k B) : safeM k (vsort B) = sureM k B := by
  rw [Bool.eq_iff_iff, safeM_iff vb.vs, sure_iff vb]
  exact SafeP.congr fun b => vsort_mem
/-! split into lots -/
structure PtOk (k : Nat) (B Ls : List (List Int)) : Prop where
  perm : Ls.flatten.Perm (rangeL k)
  one : ∀ b ∈ B, ∃ lot ∈ Ls, (cut lot b).sum = b.sum
theorem PtOk.nd {Ls : List (List Int)} (p : PtOk k B Ls) : Ls.flatten.Nodup := p.perm.nodup_iff.mpr rangeL_nodup
theorem PtOk.rg {Ls : List (List Int)} (p : PtOk k B Ls) (h : lot ∈ Ls) : ∀ i ∈ lot, 0 ≤ i ∧ i < k := fun i hi => rangeL_mem.mp (p.perm.mem_iff.mp (List.mem_flatten.mpr ⟨lot, h, hi⟩))
theorem cut_add : ∀ {lot : List Int}, (∀ i ∈ lot, 0 ≤ i ∧ i < k) → x.length = k → b.length = k → cut lot (addL x b) = addL (cut lot x) (cut lot b)
  | [], _, _, _ => by simp [cut_eq, addL_nil]
  | i :: lot, h, hx, hb => by
    have ih := cut_add (lot := lot) (fun q hq => h q (List.mem_cons_of_mem _ hq)) hx hb
    rw [cut_eq] at ih ⊢
    rw [cut_eq, cut_eq] at ih ⊢
    rw [List.map_cons, List.map_cons, List.map_cons, addL_cons, ← ih, vAt_addL (h i List.mem_cons_self) hx hb]
theorem cut_sub : ∀ {lot : List Int}, (∀ i ∈ lot, 0 ≤ i ∧ i < k) → x.length = k → b.length = k → cut lot (subL x b) = subL (cut lot x) (cut lot b)
  | [], _, _, _ => by simp [cut_eq, subL_nil]
  | i :: lot, h, hx, hb => by
    have ih := cut_sub (lot := lot) (fun q hq => h q (List.mem_cons_of_mem _ hq)) hx hb
    rw [cut_eq] at ih ⊢
    rw [cut_eq, cut_eq] at ih ⊢
    rw [List.map_cons, List.map_cons, List.map_cons, subL_cons, ← ih, vAt_subL (h i List.mem_cons_self) hx hb]
theorem cut_leB : ∀ {lot : List Int}, leB (cut lot b) (cut lot x) = true ↔ ∀ i ∈ lot, vAt b i ≤ vAt x i
  | [] => by simp [cut_eq, leB_nil]
  | i :: lot => by
    have ih := cut_leB (lot := lot)
    rw [cut_eq, cut_eq] at ih ⊢
    rw [List.map_cons, List.map_cons, leB_cons, Bool.and_eq_true, decide_eq_true_eq, ih]
    simp
theorem cut_zero (h : ∀ i ∈ lot, vAt x i = 0) : cut lot x = zer lot.length := by
  rw [cut_eq, zer_def]
  refine List.eq_replicate_iff.mpr ⟨by simp, fun y hy => ?_⟩
  obtain ⟨i, hi, rfl⟩ := List.mem_map.mp hy
  exact h i hi
theorem PtOk.other {Ls : List (List Int)} (p : PtOk k B Ls) (vb : VB k B) (h : lot ∈ Ls) (hb : b ∈ B) (hno : ¬ (cut lot b).sum = b.sum) : cut lot b = zer lot.length := by
  obtain ⟨l2, h2, e⟩ := p.one b hb
  refine cut_zero fun i hi => ?_
  refine (cut_all (flat_part p.nd l2 h2) (p.rg h2) (vb.cr hb)).mp e i (p.rg h i hi) fun hi2 => hno ?_
  rw [flat_disj p.nd lot h l2 h2 i hi hi2]; exact e
theorem Clr.cut {Ls : List (List Int)} (p : PtOk k B Ls) (vb : VB k B) (h : lot ∈ Ls) (hx : Clr k B x) : Clr lot.length (chosenM B lot) (cut lot x) := by
  induction hx with
  | zero => rw [cut_zero fun i _ => vAt_zer]; exact .zero
  | @add x b hx hb ih =>
    rw [cut_add (p.rg h) (hx.cr vb.mem).len (vb.len b hb)]
    by_cases c : (N34.cut lot b).sum = b.sum
    · exact .add ih (chosen_mem.mpr ⟨b, hb, c, rfl⟩)
    · rw [p.other vb h hb c, add_zer (cut_crok (hx.cr vb.mem)).len]; exact ih
theorem Clr.lift {Ls : List (List Int)} (p : PtOk k B Ls) (vb : VB k B) (h : lot ∈ Ls) (hy : Clr lot.length (chosenM B lot) y) : ∃ x, Clr k B x ∧ N34.cut lot x = y ∧ ∀ j : Int, (0 ≤ j ∧ j < k) → j ∉ lot → vAt x j = 0 := by
  induction hy with
  | zero => exact ⟨zer k, .zero, cut_zero fun i _ => vAt_zer, fun j _ _ => vAt_zer⟩
  | add _ hb ih =>
    obtain ⟨x, h1, h2, h3⟩ := ih
    obtain ⟨b, hb1, hb2, rfl⟩ := chosen_mem.mp hb
    have hxl := (h1.cr vb.mem).len
    have hbl := vb.len b hb1
    refine ⟨addL x b, .add h1 hb1, by rw [cut_add (p.rg h) hxl hbl, h2], fun j hj hjl => ?_⟩
    rw [vAt_addL hj hxl hbl, h3 j hj hjl, (cut_all (flat_part p.nd lot h) (p.rg h) (vb.cr hb1)).mp hb2 j hj hjl]; rfl
theorem Clr.join {Ls : List (List Int)} (p : PtOk k B Ls) (vb : VB k B) (hall : ∀ lot ∈ Ls, Clr lot.length (chosenM B lot) (N34.cut lot x)) : ∀ L1 : List (List Int), (∀ lot ∈ L1, lot ∈ Ls) → L1.flatten.Nodup → ∃ z, Clr k B z ∧ (∀ lot ∈ L1, N34.cut lot z = N34.cut lot x) ∧ ∀ j : Int, (0 ≤ j ∧ j < k) → j ∉ L1.flatten → vAt z j = 0
  | [], _, _ => ⟨zer k, .zero, fun _ h => (nomatch h), fun j _ _ => vAt_zer⟩
  | lot :: L1, hs, hn => by
    rw [List.flatten_cons] at hn
    obtain ⟨_, n2, n3⟩ := List.nodup_append.mp hn
    obtain ⟨z, z1, z2, z3⟩ := Clr.join p vb hall L1 (fun l hl => hs l (List.mem_cons_of_mem _ hl)) n2
    have hlot := hs lot List.mem_cons_self
    obtain ⟨y, y1, y2, y3⟩ := (hall lot hlot).lift p vb hlot
    have hzl := (z1.cr vb.mem).len
    have hyl := (y1.cr vb.mem).len
    refine ⟨addL z y, z1.app vb.mem y1, fun l hl => ?_, fun j hj hjl => ?_⟩
    · have hlL := hs l hl
      rw [cut_add (p.rg hlL) hzl hyl]
      rcases List.mem_cons.mp hl with e | e
      · rw [e, y2, cut_zero (x := z) fun i hi => z3 i (p.rg hlot i hi) fun w => n3 i hi i w rfl]
        refine ext_vAt (k := lot.length) (add_len zer_len (by rw [cut_eq, List.length_map])) (by rw [cut_eq, List.length_map]) fun j h1 h2 => ?_
        rw [vAt_addL ⟨h1, h2⟩ zer_len (by rw [cut_eq, List.length_map]), vAt_zer]; omega
      · rw [z2 l e, cut_zero (x := y) (lot := l) fun i hi => y3 i (p.rg hlL i hi) fun w => n3 i w i (List.mem_flatten.mpr ⟨l, e, hi⟩) rfl]
        exact add_zer (by rw [cut_eq, List.length_map])
    · rw [List.flatten_cons, List.mem_append, not_or] at hjl
      rw [vAt_addL hj hzl hyl, z3 j hj hjl.2, y3 j hj hjl.1]; rfl
theorem clr_split {Ls : List (List Int)} (p : PtOk k B Ls) (vb : VB k B) (hx : CrOk k x) : Clr k B x ↔ ∀ lot ∈ Ls, Clr lot.length (chosenM B lot) (N34.cut lot x) := by
  refine ⟨fun h lot hl => h.cut p vb hl, fun hall => ?_⟩
  obtain ⟨z, z1, z2, _⟩ := Clr.join p vb hall Ls (fun _ h => h) p.nd
  have : z = x := ext_vAt (z1.cr vb.mem).len hx.len fun j h1 h2 => by
    obtain ⟨l, hl, hj⟩ := List.mem_flatten.mp (p.perm.mem_iff.mpr (rangeL_mem.mpr ⟨h1, h2⟩))
    exact cut_inj (z2 l hl) j hj
  rw [← this]; exact z1
theorem safe_split {Ls : List (List Int)} (p : PtOk k B Ls) (vb : VB k B) : SafeP k B ↔ ∀ lot ∈ Ls, SafeP lot.length (chosenM B lot) := by
  constructor
  · intro s lot hl y hy c hc hle
    obtain ⟨x, x1, x2, x3⟩ := hy.lift p vb hl
    obtain ⟨b, b1, b2, rfl⟩ := chosen_mem.mp hc
    have hxl := (x1.cr vb.mem).len
    have hbl := vb.len b b1
    rw [← x2] at hle ⊢
    have h2 : leB b x = true := (leB_pt hbl hxl).mpr fun j hj => by
      by_cases c : j ∈ lot
      · exact cut_leB.mp hle j c
      · rw [x3 j hj c, (cut_all (flat_part p.nd lot hl) (p.rg hl) (vb.cr b1)).mp b2 j hj c]; exact Int.le_refl _
    have h3 := (s x x1 b b1 h2).cut p vb hl
    rw [cut_sub (p.rg hl) hxl hbl] at h3
    exact h3
  · intro s x hx b hb hle
    have hxl := (hx.cr vb.mem).len
    have hbl := vb.len b hb
    refine (clr_split p vb (sub_cr (hx.cr vb.mem) hbl hle)).mpr fun lot hl => ?_
    rw [cut_sub (p.rg hl) hxl hbl]
    have hc := hx.cut p vb hl
    by_cases c : (N34.cut lot b).sum = b.sum
    · exact s lot hl _ hc _ (chosen_mem.mpr ⟨b, hb, c, rfl⟩) (cut_leB.mpr fun i hi => (leB_pt hbl hxl).mp hle i (p.rg hl i hi))
    · rw [p.other vb hl hb c]
      have : subL (N34.cut lot x) (zer lot.length) = N34.cut lot x := ext_vAt (k := lot.length) (sub_len (by rw [cut_eq, List.length_map]) zer_len) (by rw [cut_eq, List.length_map]) fun j h1 h2 => by
        rw [vAt_subL ⟨h1, h2⟩ (by rw [cut_eq, List.length_map]) zer_len, vAt_zer]; omega
      rw [this]; exact hc
end
end N34

set_option Elab.async false
set_option linter.all false
set_option maxRecDepth 100000
/-! plain: safety of the lots, of the book in another order, of the books side by side -/
namespace N34
open PySem
section
variable {k : Nat} {B : List (List Int)} {i j f : Int} {a b c d x y z lot : List Int}
theorem flat_isort : ∀ L : List (List Int), ((L.map isort).flatten).Perm L.flatten
  | [] => .nil
  | a :: L => by
    rw [List.map_cons, List.flatten_cons, List.flatten_cons]
    exact (isort_perm a).append (flat_isort L)
theorem lots_pt (vb : VB k B) : PtOk k B (lotsM k B) := by
  have h := raw_ok vb
  refine ⟨((parts_perm vb h).flatten.trans (flat_isort _)).trans h.ok.perm, fun b hb => ?_⟩
  obtain ⟨j0, hj0, hp⟩ := vb.some b hb
  obtain ⟨lot, hlot, hin⟩ := lots_has vb hj0
  have lo := (lots_ok vb).1 lot hlot
  refine ⟨lot, hlot, (cut_all lo.nd lo.rg (vb.cr hb)).mpr fun j hj hjl => ?_⟩
  refine Classical.byContradiction fun hne => hjl ?_
  have h1 := vAt_nn (vb.nn b hb) j
  rw [lotsM_def] at hlot
  obtain ⟨low, _, rfl⟩ := List.mem_map.mp hlot
  refine lotAt_mem.mpr ⟨hj, ?_⟩
  rw [← (lotAt_mem.mp hin).2]
  exact (labels_cn vb hj hj0).mpr (.base hb hj hj0 (by omega) hp)
theorem safe_lots (vb : VB k B) : safeM k (vsort B) = ((lotsM k B).map fun lot => sureM lot.length (chosenM B lot)).all id := by
  have hl := (lots_ok vb).1
  rw [Bool.eq_iff_iff, safeM_iff vb.vs, SafeP.congr (B' := B) (fun b => vsort_mem), safe_split (lots_pt vb) vb, List.all_eq_true]
  constructor
  · intro h t ht
    obtain ⟨lot, hlot, rfl⟩ := List.mem_map.mp ht
    exact (sure_iff (hl lot hlot).vb).mpr (h lot hlot)
  · intro h lot hlot
    exact (sure_iff (hl lot hlot).vb).mp (h _ (List.mem_map.mpr ⟨lot, hlot, rfl⟩))
theorem safe_cut {R : List (List Int)} {ord : List Int} (vb : VB k R) (hp : ord.Perm (rangeL k)) : safeM k (vsort (vsort (R.map (cut ord)))) = safeM k (vsort R) := by
  have hol : ord.length = k := by rw [hp.length_eq]; simp
  have p : PtOk k R [ord] := ⟨by simpa using hp, fun b hb => ⟨ord, List.mem_singleton.mpr rfl, cut_sum hp (vb.len b hb)⟩⟩
  have e : chosenM R ord = R.map (cut ord) := by
    unfold chosenM
    rw [List.filter_eq_self.mpr fun b hb => decide_eq_true (cut_sum hp (vb.len b hb))]
  rw [Bool.eq_iff_iff, safeM_iff (vb_cut vb hp).vs, safeM_iff vb.vs, SafeP.congr (B' := R.map (cut ord)) (fun b => by rw [vsort_mem, vsort_mem]), SafeP.congr (B := vsort R) (B' := R) (fun b => vsort_mem), safe_split p vb]
  constructor
  · intro h lot hlot
    rw [List.mem_singleton.mp hlot, e, hol]; exact h
  · intro h
    have := h ord (List.mem_singleton.mpr rfl)
    rw [e, hol] at this; exact this
abbrev lotB2 (k1 k2 : Nat) : List Int := (rangeL k2).map fun j => j + (k1 : Int)
theorem cut_fst {k1 : Nat} (hb : b.length = k1) : cut (rangeL k1) (b ++ z) = b := by
  rw [cut_eq]
  refine List.ext_getElem (by simp [hb]) fun n h1 h2 => ?_
  simp only [List.getElem_map, List.getElem_range]
  unfold vAt
  rw [Int.toNat_natCast, List.getElem?_append_left h2, List.getElem?_eq_getElem h2]; rfl
theorem cut_snd {k1 k2 : Nat} (hb : b.length = k1) (hz : z.length = k2) : cut (lotB2 k1 k2) (b ++ z) = z := by
  rw [cut_eq]
  refine List.ext_getElem (by simp [hz]) fun n h1 h2 => ?_
  simp only [List.getElem_map, List.getElem_range]
  unfold vAt
  rw [show ((n : Int) + (k1 : Int)).toNat = k1 + n by omega, List.getElem?_append_right (by omega), hb, Nat.add_sub_cancel_left, List.getElem?_eq_getElem h2]; rfl
theorem safe_beside {k1 k2 : Nat} {f1 f2 : List (List Int)} (t : TwoB k1 k2 f1 f2) : safeM (k1 + k2) (vsort (besideM ((k1, f1), (k2, f2)))) = (sureM k1 f1 && sureM k2 f2) := by
  have vb := vb_beside t
  obtain ⟨v1, v2, a1, a2, l1, l2⟩ := t
  have len1 : (rangeL k1).length = k1 := by simp
  have len2 : (lotB2 k1 k2).length = k2 := by simp
  have p : PtOk (k1 + k2) (besideM ((k1, f1), (k2, f2))) [rangeL k1, lotB2 k1 k2] := by
    refine ⟨?_, fun b hb => ?_⟩
    · have : [rangeL k1, lotB2 k1 k2].flatten = rangeL k1 ++ lotB2 k1 k2 := by simp
      rw [this]
      refine (List.perm_ext_iff_of_nodup ?_ rangeL_nodup).mpr fun j => ?_
      · refine List.nodup_append.mpr ⟨rangeL_nodup, nodup_map rangeL_nodup fun a _ b _ e => by omega, fun a ha b hb e => ?_⟩
        obtain ⟨c, hc, rfl⟩ := List.mem_map.mp hb
        have := rangeL_mem.mp ha
        have := rangeL_mem.mp hc
        omega
      · rw [List.mem_append, rangeL_mem, rangeL_mem]
        constructor
        · rintro (h | h)
          · omega
          · obtain ⟨c, hc, rfl⟩ := List.mem_map.mp h
            have := rangeL_mem.mp hc
            omega
        · intro h
          by_cases c : j < k1
          · exact .inl ⟨h.1, c⟩
          · exact .inr (List.mem_map.mpr ⟨j - k1, rangeL_mem.mpr ⟨by omega, by omega⟩, by omega⟩)
    · rcases beside_mem.mp hb with ⟨c, hc, rfl⟩ | ⟨c, hc, rfl⟩
      · exact ⟨rangeL k1, by simp, by rw [cut_fst (v1.len c hc), sum_app, zer_sum]; omega⟩
      · exact ⟨lotB2 k1 k2, by simp, by rw [cut_snd zer_len (v2.len c hc), sum_app, zer_sum]; omega⟩
  have c1 : ∀ x, x ∈ chosenM (besideM ((k1, f1), (k2, f2))) (rangeL k1) ↔ x ∈ f1 := fun x => by
    rw [chosen_mem]
    constructor
    · rintro ⟨b, hb, e, rfl⟩
      rcases beside_mem.mp hb with ⟨c, hc, rfl⟩ | ⟨c, hc, rfl⟩
      · rw [cut_fst (v1.len c hc)]; exact hc
      · rw [cut_fst zer_len, sum_app, zer_sum] at e
        have := v2.ps c hc
        omega
    · intro hx
      exact ⟨x ++ zer k2, beside_mem.mpr (.inl ⟨x, hx, rfl⟩), by rw [cut_fst (v1.len x hx), sum_app, zer_sum]; omega, (cut_fst (v1.len x hx)).symm⟩
  have c2 : ∀ x, x ∈ chosenM (besideM ((k1, f1), (k2, f2))) (lotB2 k1 k2) ↔ x ∈ f2 := fun x => by
    rw [chosen_mem]
    constructor
    · rintro ⟨b, hb, e, rfl⟩
      rcases beside_mem.mp hb with ⟨c, hc, rfl⟩ | ⟨c, hc, rfl⟩
      · rw [cut_snd (v1.len c hc) zer_len, sum_app, zer_sum] at e
        have := v1.ps c hc
        omega
      · rw [cut_snd zer_len (v2.len c hc)]; exact hc
    · intro hx
      exact ⟨zer k1 ++ x, beside_mem.mpr (.inr ⟨x, hx, rfl⟩), by rw [cut_snd zer_len (v2.len x hx), sum_app, zer_sum]; omega, (cut_snd zer_len (v2.len x hx)).symm⟩
  rw [Bool.eq_iff_iff, safeM_iff vb.vs, SafeP.congr (B' := besideM ((k1, f1), (k2, f2))) (fun b => vsort_mem), safe_split p vb, Bool.and_eq_true, sure_iff v1, sure_iff v2]
  constructor
  · intro h
    have h1 := h (rangeL k1) (by simp)
    have h2 := h (lotB2 k1 k2) (by simp)
    rw [len1] at h1
    rw [len2] at h2
    exact ⟨(SafeP.congr c1).mp h1, (SafeP.congr c2).mp h2⟩
  · rintro ⟨h1, h2⟩ lot hlot
    simp only [List.mem_cons, List.not_mem_nil, or_false] at hlot
    rcases hlot with rfl | rfl
    · rw [len1]; exact (SafeP.congr c1).mpr h1
    · rw [len2]; exact (SafeP.congr c2).mpr h2
end
end N34

set_option Elab.async false
set_option linter.all false
set_option maxRecDepth 100000
/-! plain: what runs leave -/
namespace N34
open PySem
inductive Rch (B : List (List Int)) (x : List Int) : List Int → Prop
  | refl : Rch B x x
  | step {w b : List Int} : Rch B x w → b ∈ B → leB b w = true → Rch B x (subL w b)
def Stk (B : List (List Int)) (r : List Int) : Prop := ∀ b ∈ B, leB b r = false
section
variable {k : Nat} {B : List (List Int)} {i j f : Int} {a b c d x y z w r lot : List Int}
theorem Rch.cr (vb : VB k B) (hx : CrOk k x) (h : Rch B x r) : CrOk k r ∧ r.sum ≤ x.sum := by
  induction h with
  | refl => exact ⟨hx, Int.le_refl _⟩
  | step _ hb hl ih =>
    have hbl := vb.len _ hb
    have := sub_sum (ih.1.len.trans hbl.symm)
    have := vb.ps _ hb
    exact ⟨sub_cr ih.1 hbl hl, by omega⟩
theorem steps_has (hb : b ∈ B) (hl : leB b w = true) : ∃ p ∈ stepsM B w, p.2 = subL w b := by
  obtain ⟨n, hn⟩ := List.getElem?_of_mem hb
  unfold stepsM
  exact ⟨((n : Int), subL w b), List.mem_map.mpr ⟨(b, n), List.mem_filter.mpr ⟨List.mem_zipIdx_iff_getElem?.mpr hn, hl⟩, rfl⟩, rfl⟩
theorem stk_steps : Stk B r ↔ (stepsM B r).length = 0 := by
  constructor
  · intro h
    cases e : stepsM B r with
    | nil => rfl
    | cons p l =>
      have : p ∈ stepsM B r := by rw [e]; exact List.mem_cons_self
      unfold stepsM at this
      obtain ⟨q, hq, _⟩ := List.mem_map.mp this
      obtain ⟨h1, h2⟩ := List.mem_filter.mp hq
      rw [h _ (zipIdx_mem h1).1] at h2; cases h2
  · intro h b hb
    cases e : leB b r with
    | false => rfl
    | true =>
      obtain ⟨p, hp, _⟩ := steps_has hb e
      rw [List.length_eq_zero_iff.mp h] at hp; cases hp
/-! the program's ways -/
structure WyF (B : List (List Int)) (x : List Int) (st st' : Wy × List (List Int)) : Prop where
  gr : ∀ c ∈ st.1.map (·.1), c ∈ st'.1.map (·.1)
  gl : ∀ c ∈ st.2, c ∈ st'.2
  nw : ∀ c ∈ st'.1.map (·.1), c ∈ st.1.map (·.1) ∨ c ∈ st'.2
  rc : (∀ c ∈ st.1.map (·.1), Rch B x c) → ∀ c ∈ st'.1.map (·.1), Rch B x c
theorem WyF.refl {st : Wy × List (List Int)} : WyF B x st st := ⟨fun _ h => h, fun _ h => h, fun _ h => .inl h, fun h => h⟩
theorem WyF.trans {s1 s2 s3 : Wy × List (List Int)} (h : WyF B x s1 s2) (g : WyF B x s2 s3) : WyF B x s1 s3 :=
  ⟨fun c hc => g.gr c (h.gr c hc), fun c hc => g.gl c (h.gl c hc), fun c hc => (g.nw c hc).elim (fun hc => (h.nw c hc).imp id (g.gl c)) .inr, fun hr => g.rc (h.rc hr)⟩
theorem wyIn_F {st : Wy × List (List Int)} {p : Int × List Int} (hp : Rch B x p.2) : WyF B x st (wyIn w st p) ∧ p.2 ∈ (wyIn w st p).1.map (·.1) := by
  unfold wyIn
  by_cases c : (lk st.1 p.2).isSome = true
  · rw [if_pos c]
    rw [lk_some, decide_eq_true_eq] at c
    exact ⟨.refl, c⟩
  · rw [if_neg c]
    refine ⟨⟨fun c hc => key_pt.mpr (.inl hc), fun c hc => List.mem_append_left _ hc, fun c hc => (key_pt.mp hc).imp id fun e => List.mem_append_right _ (List.mem_singleton.mpr e), fun hr c hc => (key_pt.mp hc).elim (hr c) fun e => e ▸ hp⟩, key_pt.mpr (.inr rfl)⟩
theorem wyIn_FF : ∀ (ps : List (Int × List Int)) (st : Wy × List (List Int)), (∀ p ∈ ps, Rch B x p.2) → WyF B x st (ps.foldl (wyIn w) st) ∧ ∀ p ∈ ps, p.2 ∈ (ps.foldl (wyIn w) st).1.map (·.1)
  | [], st, _ => ⟨.refl, fun _ h => nomatch h⟩
  | p :: ps, st, h => by
    obtain ⟨h1, h2⟩ := wyIn_F (w := w) (st := st) (h p List.mem_cons_self)
    obtain ⟨h3, h4⟩ := wyIn_FF ps (wyIn w st p) fun q hq => h q (List.mem_cons_of_mem _ hq)
    rw [List.foldl_cons]
    exact ⟨h1.trans h3, fun q hq => (List.mem_cons.mp hq).elim (fun e => by rw [e]; exact h3.gr _ h2) (h4 q)⟩
theorem wyStep_FF (vb : VB k B) (hx : CrOk k x) : ∀ (pre : List (List Int)) (st : Wy × List (List Int)), (∀ w ∈ pre, Rch B x w) → WyF B x st (pre.foldl (wyStep B) st) ∧ ∀ w ∈ pre, ∀ b ∈ B, leB b w = true → subL w b ∈ (pre.foldl (wyStep B) st).1.map (·.1)
  | [], st, _ => ⟨.refl, fun _ h => nomatch h⟩
  | v :: pre, st, h => by
    have hv := h v List.mem_cons_self
    have e : wyStep B st v = (stepsM B v).foldl (wyIn v) st := by unfold wyStep; rfl
    obtain ⟨h1, h2⟩ := wyIn_FF (B := B) (x := x) (w := v) (stepsM B v) st fun p hp => by
      obtain ⟨_, _, b, hb, hl, e⟩ := steps_ok vb (hv.cr vb hx).1 hp
      rw [e]; exact .step hv hb hl
    obtain ⟨h3, h4⟩ := wyStep_FF vb hx pre (wyStep B st v) fun q hq => h q (List.mem_cons_of_mem _ hq)
    rw [e] at h3 h4
    rw [List.foldl_cons, e]
    refine ⟨h1.trans h3, fun q hq b hb hl => ?_⟩
    rcases List.mem_cons.mp hq with z | z
    · rw [z] at hl ⊢
      obtain ⟨p, hp, ep⟩ := steps_has hb hl
      rw [← ep]; exact h3.gr _ (h2 p hp)
    · exact h4 q z b hb hl
structure WyC (k s : Nat) (B : List (List Int)) (x : List Int) (j : Nat) (fresh : List (List Int)) (found : Wy) : Prop where
  wi : WI k s j fresh found
  rc : ∀ c ∈ found.map (·.1), Rch B x c
  st : x ∈ found.map (·.1)
  cl : ∀ w ∈ found.map (·.1), w ∈ fresh ∨ ∀ b ∈ B, leB b w = true → subL w b ∈ found.map (·.1)
theorem WyC.step {s j : Nat} {fresh : List (List Int)} {found : Wy} (vb : VB k B) (hx : CrOk k x) (h : WyC k s B x j fresh found) : WyC k s B x (j + 1) (fresh.foldl (wyStep B) (found, [])).2 (fresh.foldl (wyStep B) (found, [])).1 := by
  obtain ⟨h1, h2⟩ := wyStep_FF vb hx fresh (found, []) fun w hw => h.rc w (h.wi.fr w hw).1
  refine ⟨h.wi.step vb, h1.rc h.rc, h1.gr _ h.st, fun w hw => ?_⟩
  rcases h1.nw w hw with z | z
  · rcases h.cl w z with c | c
    · exact .inr fun b hb hl => h2 w c b hb hl
    · exact .inr fun b hb hl => h1.gr _ (c b hb hl)
  · exact .inl z
theorem wyC_end {s : Nat} (vb : VB k B) (hx : CrOk k x) : ∀ (n j : Nat) (fresh : List (List Int)) (found : Wy), s + 1 ≤ n + j → WyC k s B x j fresh found → ∃ j', WyC k s B x j' [] (wyLoop B n fresh found)
  | 0, j, fresh, found, hn, h => by
    by_cases hf : fresh.length = 0
    · rw [List.length_eq_zero_iff.mp hf] at h ⊢; exact ⟨j, h⟩
    · have := h.wi.lvl hf; omega
  | n + 1, j, fresh, found, hn, h => by
    by_cases hf : fresh.length = 0
    · rw [List.length_eq_zero_iff.mp hf] at h ⊢; rw [wyLoop_nil]; exact ⟨j, h⟩
    · rw [wyLoop_succ hf]
      exact wyC_end vb hx n (j + 1) _ _ (by omega) (h.step vb hx)
theorem ways_rch (vb : VB k B) (hx : CrOk k x) : r ∈ (waysM B x).map (·.1) ↔ Rch B x r := by
  obtain ⟨s, hs⟩ : ∃ s : Nat, x.sum = s := ⟨x.sum.toNat, by have := sum_nn hx.nn; omega⟩
  obtain ⟨_, h⟩ := wyC_end (s := s) vb hx (x.sum.toNat + 2) 0 [x] [(x, [])] (by omega) ⟨WI.zero hx (by omega), fun c hc => by
    have : c = x := by simpa using hc
    rw [this]; exact .refl, by simp, fun w hw => .inl (by simpa using hw)⟩
  have e : waysM B x = wyLoop B (x.sum.toNat + 2) [x] [(x, [])] := by unfold waysM; rfl
  rw [e]
  refine ⟨h.rc r, fun hr => ?_⟩
  induction hr with
  | refl => exact h.st
  | step _ hb hl ih => exact (h.cl _ ih).elim (fun z => nomatch z) fun c => c _ hb hl
theorem ends_mem (vb : VB k B) (hx : CrOk k x) : r ∈ endsM B x ↔ Rch B x r ∧ Stk B r := by
  unfold endsM
  rw [vsort_mem, List.mem_filter, ways_rch vb hx, stk_steps, decide_eq_true_eq]
theorem ends_nodup (vb : VB k B) (hx : CrOk k x) : (endsM B x).Nodup := by
  have h := ways_ok (s := x.sum.toNat) vb hx (by have := sum_nn hx.nn; omega)
  unfold endsM
  exact (vsort_perm _).nodup_iff.mpr (h.nd.sublist List.filter_sublist)
theorem ends_ok (vb : VB k B) (hx : CrOk k x) (h8 : x.sum ≤ 8) : (∀ e ∈ endsM B x, SmR e) ∧ (endsM B x).length ≤ 100000 := by
  have k4 := vb.le4
  have h := ways_ok (s := x.sum.toNat) vb hx (by have := sum_nn hx.nn; omega)
  constructor
  · intro e he
    obtain ⟨h1, _⟩ := (ends_mem vb hx).mp he
    obtain ⟨h2, h3⟩ := h1.cr vb hx
    refine ⟨by rw [h2.len]; exact k4, fun i hi => ⟨h2.nn i hi, ?_⟩⟩
    have := le_sum h2.nn i hi
    omega
  · have e : endsM B x = vsort (((waysM B x).map (·.1)).filter fun r => decide ((stepsM B r).length = 0)) := by unfold endsM; rfl
    rw [e, (vsort_perm _).length_eq]
    refine Nat.le_trans (List.length_filter_le _ _) ?_
    have h1 : ((waysM B x).map (·.1)).length ≤ (x.sum.toNat + 1) ^ k := h.few
    have h2 : (x.sum.toNat + 1) ^ k ≤ 9 ^ k := Nat.pow_le_pow_left (by omega) k
    have h3 : 9 ^ k ≤ 9 ^ 4 := Nat.pow_le_pow_right (by decide) k4
    omega
/-! the law's walk -/
structure LdF (B : List (List Int)) (x : List Int) (s1 l1 : List (List Int)) (s2 l2 : List (List Int)) : Prop where
  gr : ∀ c ∈ s1, c ∈ s2
  gl : ∀ c ∈ l1, c ∈ l2
  nw : ∀ c ∈ s2, c ∈ s1 ∨ c ∈ l2
  rc : (∀ c ∈ s1, Rch B x c) → ∀ c ∈ s2, Rch B x c
  ex : ∀ c ∈ l2, c ∈ l1 ∨ c ∉ s1
  nd : l1.Nodup → (∀ c ∈ l1, c ∈ s1) → l2.Nodup ∧ ∀ c ∈ l2, c ∈ s2
theorem LdF.refl {s l : List (List Int)} : LdF B x s l s l := ⟨fun _ h => h, fun _ h => h, fun _ h => .inl h, fun h => h, fun _ h => .inl h, fun a b => ⟨a, b⟩⟩
theorem LdF.trans {s1 l1 s2 l2 s3 l3 : List (List Int)} (h : LdF B x s1 l1 s2 l2) (g : LdF B x s2 l2 s3 l3) : LdF B x s1 l1 s3 l3 :=
  ⟨fun c hc => g.gr c (h.gr c hc), fun c hc => g.gl c (h.gl c hc), fun c hc => (g.nw c hc).elim (fun hc => (h.nw c hc).imp id (g.gl c)) .inr, fun hr => g.rc (h.rc hr),
    fun c hc => (g.ex c hc).elim (h.ex c) fun n => .inr fun z => n (h.gr c z), fun a b => have ⟨p, q⟩ := h.nd a b; g.nd p q⟩
theorem lendIn_F {st : CvF × List (List Int)} (hr : Rch B x r) : LdF B x (st.1.map (·.1)) st.2 ((lendIn st r).1.map (·.1)) (lendIn st r).2 ∧ r ∈ (lendIn st r).1.map (·.1) := by
  unfold lendIn
  by_cases c : (lk st.1 r).isSome = true
  · rw [if_pos c]
    rw [lk_some, decide_eq_true_eq] at c
    exact ⟨.refl, c⟩
  · rw [if_neg c]
    have hn : r ∉ st.1.map (·.1) := by rw [lk_some, decide_eq_true_eq] at c; exact c
    refine ⟨⟨fun c hc => key_pt.mpr (.inl hc), fun c hc => List.mem_append_left _ hc, fun c hc => (key_pt.mp hc).imp id fun e => List.mem_append_right _ (List.mem_singleton.mpr e), fun hh c hc => (key_pt.mp hc).elim (hh c) fun e => e ▸ hr, fun c hc => ?_, fun a b => ⟨?_, fun c hc => ?_⟩⟩, key_pt.mpr (.inr rfl)⟩
    · rcases List.mem_append.mp hc with z | z
      · exact .inl z
      · rw [List.mem_singleton.mp z]; exact .inr hn
    · refine List.nodup_append.mpr ⟨a, by simp, fun p hp q hq e => ?_⟩
      rw [List.mem_singleton.mp hq] at e
      exact hn (e ▸ b p hp)
    · rcases List.mem_append.mp hc with z | z
      · exact key_pt.mpr (.inl (b c z))
      · rw [List.mem_singleton.mp z]; exact key_pt.mpr (.inr rfl)
theorem lendIn_FF : ∀ (rs : List (List Int)) (st : CvF × List (List Int)), (∀ r ∈ rs, Rch B x r) → LdF B x (st.1.map (·.1)) st.2 ((rs.foldl lendIn st).1.map (·.1)) (rs.foldl lendIn st).2 ∧ ∀ r ∈ rs, r ∈ (rs.foldl lendIn st).1.map (·.1)
  | [], st, _ => ⟨.refl, fun _ h => nomatch h⟩
  | r :: rs, st, h => by
    obtain ⟨h1, h2⟩ := lendIn_F (st := st) (h r List.mem_cons_self)
    obtain ⟨h3, h4⟩ := lendIn_FF rs (lendIn st r) fun q hq => h q (List.mem_cons_of_mem _ hq)
    rw [List.foldl_cons]
    exact ⟨h1.trans h3, fun q hq => (List.mem_cons.mp hq).elim (fun e => by rw [e]; exact h3.gr _ h2) (h4 q)⟩
theorem lrests_mem : r ∈ lrests B w ↔ ∃ b ∈ B, leB b w = true ∧ r = subL w b := by
  unfold lrests
  rw [List.mem_map]
  constructor
  · rintro ⟨b, hb, rfl⟩
    obtain ⟨h1, h2⟩ := List.mem_filter.mp hb
    exact ⟨b, h1, h2, rfl⟩
  · rintro ⟨b, h1, h2, rfl⟩
    exact ⟨b, List.mem_filter.mpr ⟨h1, h2⟩, rfl⟩
theorem stk_rests : Stk B r ↔ (lrests B r).length = 0 := by
  constructor
  · intro h
    cases e : lrests B r with
    | nil => rfl
    | cons p l =>
      have : p ∈ lrests B r := by rw [e]; exact List.mem_cons_self
      obtain ⟨b, hb, hl, _⟩ := lrests_mem.mp this
      rw [h b hb] at hl; cases hl
  · intro h b hb
    cases e : leB b r with
    | false => rfl
    | true =>
      have := lrests_mem.mpr ⟨b, hb, e, rfl⟩
      rw [List.length_eq_zero_iff.mp h] at this; cases this
theorem lendStep_eq {st : LE} : lendStep B st w = ⟨((lrests B w).foldl lendIn (st.seen, st.later)).1, if (lrests B w).length = 0 then st.found ++ [w] else st.found, ((lrests B w).foldl lendIn (st.seen, st.later)).2⟩ := by unfold lendStep; rfl
/-- within a level: post still to do -/
structure LdJ (B : List (List Int)) (x : List Int) (post : List (List Int)) (st : LE) : Prop where
  rc : ∀ c ∈ st.seen.map (·.1), Rch B x c
  x : x ∈ st.seen.map (·.1)
  sub : ∀ c ∈ post ++ st.later ++ st.found, c ∈ st.seen.map (·.1)
  cl : ∀ w ∈ st.seen.map (·.1), w ∈ post ∨ w ∈ st.later ∨ ((∀ b ∈ B, leB b w = true → subL w b ∈ st.seen.map (·.1)) ∧ (Stk B w → w ∈ st.found))
  fd : ∀ r ∈ st.found, Stk B r
  nd : (post ++ st.later ++ st.found).Nodup
theorem LdJ.step (h : LdJ B x (w :: r') st) : LdJ B x r' (lendStep B st w) := by
  have hw : w ∈ st.seen.map (·.1) := h.sub w (by simp)
  have hrw := h.rc w hw
  obtain ⟨g, g2⟩ := lendIn_FF (B := B) (x := x) (lrests B w) (st.seen, st.later) fun r hr => by
    obtain ⟨b, hb, hl, rfl⟩ := lrests_mem.mp hr
    exact .step hrw hb hl
  rw [lendStep_eq]
  generalize hR : (lrests B w).foldl lendIn (st.seen, st.later) = R at g g2
  have hnd := h.nd
  have nd1 := List.nodup_append.mp hnd
  have nd2 := List.nodup_append.mp nd1.1
  have nd3 := List.nodup_cons.mp nd2.1
  have hlsub : ∀ c ∈ st.later, c ∈ st.seen.map (·.1) := fun c hc => h.sub c (by simp [hc])
  obtain ⟨n1, n2⟩ := g.nd nd2.2.1 hlsub
  have wl : w ∉ st.later := fun z => nd2.2.2 w List.mem_cons_self w z rfl
  have wf : w ∉ st.found := fun z => nd1.2.2 w (by simp) w z rfl
  refine ⟨g.rc h.rc, g.gr _ h.x, fun c hc => ?_, fun v hv => ?_, fun r hr => ?_, ?_⟩
  · have hc' : c ∈ r' ++ R.2 ++ (if (lrests B w).length = 0 then st.found ++ [w] else st.found) := hc
    rcases List.mem_append.mp hc' with z | z
    · rcases List.mem_append.mp z with z | z
      · exact g.gr _ (h.sub c (by simp [z]))
      · exact n2 c z
    · split at z
      · rcases List.mem_append.mp z with z | z
        · exact g.gr _ (h.sub c (by simp [z]))
        · rw [List.mem_singleton.mp z]; exact g.gr _ hw
      · exact g.gr _ (h.sub c (by simp [z]))
  · have hv' : v ∈ R.1.map (·.1) := hv
    have fgrow : ∀ c ∈ st.found, c ∈ (if (lrests B w).length = 0 then st.found ++ [w] else st.found) := fun c hc => by
      split
      · exact List.mem_append_left _ hc
      · exact hc
    rcases g.nw v hv' with z | z
    · rcases h.cl v z with c | c | ⟨c1, c2⟩
      · rcases List.mem_cons.mp c with e | e
        · subst e
          refine .inr (.inr ⟨fun b hb hl => g2 _ (lrests_mem.mpr ⟨b, hb, hl, rfl⟩), fun hs => ?_⟩)
          show v ∈ (if (lrests B v).length = 0 then st.found ++ [v] else st.found)
          rw [if_pos (stk_rests.mp hs)]; simp
        · exact .inl e
      · exact .inr (.inl (g.gl v c))
      · exact .inr (.inr ⟨fun b hb hl => g.gr _ (c1 b hb hl), fun hs => fgrow v (c2 hs)⟩)
    · exact .inr (.inl z)
  · have hr' : r ∈ (if (lrests B w).length = 0 then st.found ++ [w] else st.found) := hr
    split at hr'
    · rename_i h0
      rcases List.mem_append.mp hr' with z | z
      · exact h.fd r z
      · rw [List.mem_singleton.mp z]; exact stk_rests.mpr h0
    · exact h.fd r hr'
  · show (r' ++ R.2 ++ (if (lrests B w).length = 0 then st.found ++ [w] else st.found)).Nodup
    have fin : ∀ c ∈ (if (lrests B w).length = 0 then st.found ++ [w] else st.found), c ∈ st.found ∨ c = w := fun c hc => by
      split at hc
      · exact (List.mem_append.mp hc).imp id List.mem_singleton.mp
      · exact .inl hc
    refine List.nodup_append.mpr ⟨List.nodup_append.mpr ⟨nd3.2, n1, fun p hp q hq e => ?_⟩, ?_, fun p hp q hq e => ?_⟩
    · rcases g.ex q hq with z | z
      · exact nd2.2.2 p (List.mem_cons_of_mem _ hp) q z e
      · exact z (e ▸ h.sub p (by simp [hp]))
    · split
      · exact List.nodup_append.mpr ⟨nd1.2.1, by simp, fun p hp q hq e => by rw [List.mem_singleton.mp hq] at e; exact wf (e ▸ hp)⟩
      · exact nd1.2.1
    · subst e
      rcases fin p hq with z | z
      · rcases List.mem_append.mp hp with t | t
        · exact nd1.2.2 p (by simp [t]) p z rfl
        · rcases g.ex p t with u | u
          · exact nd1.2.2 p (by simp [u]) p z rfl
          · exact u (h.sub p (by simp [z]))
      · subst z
        rcases List.mem_append.mp hp with t | t
        · exact nd3.1 t
        · rcases g.ex p t with u | u
          · exact wl u
          · exact u hw
theorem LdJ.fold : ∀ (pre : List (List Int)) (st : LE), LdJ B x pre st → LdJ B x [] (pre.foldl (lendStep B) st)
  | [], _, h => h
  | w :: pre, st, h => LdJ.fold pre _ h.step
structure LdC (k s : Nat) (B : List (List Int)) (x : List Int) (j : Nat) (fresh : List (List Int)) (seen : CvF) (found : List (List Int)) : Prop where
  ei : EI k s j fresh seen found
  lj : LdJ B x fresh ⟨seen, found, []⟩
theorem LdC.step {s j : Nat} {fresh found : List (List Int)} {seen : CvF} (vb : VB k B) (h : LdC k s B x j fresh seen found) : LdC k s B x (j + 1) (fresh.foldl (lendStep B) ⟨seen, found, []⟩).later (fresh.foldl (lendStep B) ⟨seen, found, []⟩).seen (fresh.foldl (lendStep B) ⟨seen, found, []⟩).found := by
  refine ⟨h.ei.step vb, ?_⟩
  have g := h.lj.fold
  exact ⟨g.rc, g.x, fun c hc => g.sub c (by simpa using hc), fun w hw => by
    rcases g.cl w hw with z | z | z
    · cases z
    · exact .inl z
    · exact .inr (.inr z), g.fd, by simpa using g.nd⟩
theorem ldC_end {s : Nat} (vb : VB k B) : ∀ (n j : Nat) (fresh : List (List Int)) (seen : CvF) (found : List (List Int)), s + 1 ≤ n + j → LdC k s B x j fresh seen found → ∃ j' seen', LdC k s B x j' [] seen' (lendLoop B n fresh seen found)
  | 0, j, fresh, seen, found, hn, h => by
    by_cases hf : fresh.length = 0
    · rw [List.length_eq_zero_iff.mp hf] at h ⊢; exact ⟨j, seen, h⟩
    · have := h.ei.lvl hf; omega
  | n + 1, j, fresh, seen, found, hn, h => by
    by_cases hf : fresh.length = 0
    · rw [List.length_eq_zero_iff.mp hf] at h ⊢; rw [lendLoop_nil]; exact ⟨j, seen, h⟩
    · rw [lendLoop_succ hf]
      exact ldC_end vb n (j + 1) _ _ _ (by omega) (h.step vb)
theorem lends_all (vb : VB k B) (hx : CrOk k x) : (∀ r, r ∈ lendsM B x ↔ Rch B x r ∧ Stk B r) ∧ (lendsM B x).Nodup := by
  obtain ⟨s, hs⟩ : ∃ s : Nat, x.sum = s := ⟨x.sum.toNat, by have := sum_nn hx.nn; omega⟩
  obtain ⟨_, seen, h⟩ := ldC_end (s := s) (x := x) vb (x.sum.toNat + 2) 0 [x] [(x, ())] [] (by omega) ⟨EI.zero hx (by omega), fun c hc => by
    have : c = x := by simpa using hc
    rw [this]; exact .refl, by simp, fun c hc => by simpa using hc, fun w hw => .inl (by simpa using hw), fun _ h => (nomatch h), by simp⟩
  have e : lendsM B x = vsort (lendLoop B (x.sum.toNat + 2) [x] [(x, ())] []) := by unfold lendsM; rfl
  have hseen : ∀ r, Rch B x r → r ∈ seen.map (·.1) := fun r hr => by
    induction hr with
    | refl => exact h.lj.x
    | step _ hb hl ih => exact (h.lj.cl _ ih).elim (fun z => nomatch z) fun z => z.elim (fun z => nomatch z) fun c => c.1 _ hb hl
  rw [e]
  refine ⟨fun r => ?_, (vsort_perm _).nodup_iff.mpr (by simpa using h.lj.nd)⟩
  rw [vsort_mem]
  constructor
  · intro hr
    exact ⟨h.lj.rc r (h.lj.sub r (by simpa using hr)), h.lj.fd r hr⟩
  · rintro ⟨h1, h2⟩
    exact (h.lj.cl r (hseen r h1)).elim (fun z => nomatch z) fun z => z.elim (fun z => nomatch z) fun c => c.2 h2
theorem lends_ok (vb : VB k B) (hx : CrOk k x) (h8 : x.sum ≤ 8) : (∀ e ∈ lendsM B x, CrOk k e) ∧ (lendsM B x).length ≤ 9 ^ k := by
  obtain ⟨h1, h2⟩ := lends_all vb hx
  have hc : ∀ e ∈ lendsM B x, CrOk k e ∧ e.sum ≤ x.sum := fun e he => ((h1 e).mp he).1.cr vb hx
  refine ⟨fun e he => (hc e he).1, ?_⟩
  have : BxOk k 8 (lendsM B x) := ⟨h2, fun e he => ⟨(hc e he).1, by have := (hc e he).2; omega⟩⟩
  exact this.few
end
end N34

set_option Elab.async false
set_option linter.all false
set_option maxRecDepth 100000
/-! plain: what runs leave, put together from the lots -/
namespace N34
open PySem
section
variable {k : Nat} {B : List (List Int)} {i j f : Int} {a b c d e x y z w r lot : List Int}
theorem Rch.of (h : ∀ b ∈ B, b ∈ c') (hr : Rch B x r) : Rch c' x r := by
  induction hr with
  | refl => exact .refl
  | step _ hb hl ih => exact .step ih (h _ hb) hl
theorem sub_zer (hx : x.length = k) : subL x x = zer k := ext_vAt (sub_len hx hx) zer_len fun j h1 h2 => by rw [vAt_subL ⟨h1, h2⟩ hx hx, vAt_zer]; omega
theorem sub_z (hx : x.length = k) : subL x (zer k) = x := ext_vAt (sub_len hx zer_len) hx fun j h1 h2 => by rw [vAt_subL ⟨h1, h2⟩ hx zer_len, vAt_zer]; omega
theorem leB_sub (hb : CrOk k b) (hw : CrOk k w) : leB (subL w b) w = true := (leB_pt (sub_len hw.len hb.len) hw.len).mpr fun j hj => by
  rw [vAt_subL hj hw.len hb.len]; have := vAt_nn hb.nn j; omega
theorem leB_tr (ha : a.length = k) (hb : b.length = k) (hc : c.length = k) (h1 : leB a b = true) (h2 : leB b c = true) : leB a c = true := (leB_pt ha hc).mpr fun j hj => by
  have := (leB_pt ha hb).mp h1 j hj
  have := (leB_pt hb hc).mp h2 j hj
  omega
/-- what can be reached: what is gone is put together of members -/
theorem rch_iff (vb : VB k B) (hx : CrOk k x) : Rch B x r ↔ CrOk k r ∧ leB r x = true ∧ Clr k B (subL x r) := by
  constructor
  · intro h
    induction h with
    | refl => exact ⟨hx, leB_refl x, by rw [sub_zer hx.len]; exact .zero⟩
    | @step w b h hb hl ih =>
      obtain ⟨h1, h2, h3⟩ := ih
      have hbc := vb.cr hb
      have hwb := sub_cr h1 hbc.len hl
      refine ⟨hwb, leB_tr hwb.len h1.len hx.len (leB_sub hbc h1) h2, ?_⟩
      have : subL x (subL w b) = addL (subL x w) b := ext_vAt (sub_len hx.len hwb.len) (add_len (sub_len hx.len h1.len) hbc.len) fun j p q => by
        rw [vAt_subL ⟨p, q⟩ hx.len hwb.len, vAt_subL ⟨p, q⟩ h1.len hbc.len, vAt_addL ⟨p, q⟩ (sub_len hx.len h1.len) hbc.len, vAt_subL ⟨p, q⟩ hx.len h1.len]; omega
      rw [this]; exact .add h3 hb
  · rintro ⟨h1, h2, h3⟩
    have key : ∀ d, Clr k B d → ∀ x r, CrOk k x → CrOk k r → subL x r = d → Rch B x r := by
      intro d hd
      induction hd with
      | zero =>
        intro x r hx hr e
        have : r = x := ext_vAt hr.len hx.len fun j p q => by
          have this : vAt (subL x r) j = vAt (zer k) j := congrArg (fun v => vAt v j) e
          rw [vAt_subL ⟨p, q⟩ hx.len hr.len, vAt_zer] at this
          omega
        rw [this]; exact .refl
      | @add d b hd hb ih =>
        intro x r hx hr e
        have hbc := vb.cr hb
        have hdc := hd.cr vb.mem
        have hw : CrOk k (addL r b) := add_cr hr hbc
        have e1 : subL x (addL r b) = d := ext_vAt (sub_len hx.len hw.len) hdc.len fun j p q => by
          have this : vAt (subL x r) j = vAt (addL d b) j := congrArg (fun v => vAt v j) e
          rw [vAt_subL ⟨p, q⟩ hx.len hr.len, vAt_addL ⟨p, q⟩ hdc.len hbc.len] at this
          rw [vAt_subL ⟨p, q⟩ hx.len hw.len, vAt_addL ⟨p, q⟩ hr.len hbc.len]; omega
        have h := ih x (addL r b) hx hw e1
        have hl : leB b (addL r b) = true := (leB_pt hbc.len hw.len).mpr fun j hj => by
          rw [vAt_addL hj hr.len hbc.len]; have := vAt_nn hr.nn j; omega
        have := Rch.step h hb hl
        rw [add_sub hr.len hbc.len] at this
        exact this
    exact key _ h3 x r hx h1 rfl
theorem stk_split {Ls : List (List Int)} (p : PtOk k B Ls) (vb : VB k B) (hr : CrOk k r) : Stk B r ↔ ∀ lot ∈ Ls, Stk (chosenM B lot) (cut lot r) := by
  constructor
  · intro h lot hl c hc
    obtain ⟨b, b1, b2, rfl⟩ := chosen_mem.mp hc
    cases q : leB (cut lot b) (cut lot r) with
    | false => rfl
    | true =>
      have : leB b r = true := (leB_pt (vb.len b b1) hr.len).mpr fun j hj => by
        by_cases c : j ∈ lot
        · exact cut_leB.mp q j c
        · rw [(cut_all (flat_part p.nd lot hl) (p.rg hl) (vb.cr b1)).mp b2 j hj c]; exact vAt_nn hr.nn j
      rw [h b b1] at this; cases this
  · intro h b hb
    obtain ⟨lot, hl, hs⟩ := p.one b hb
    cases q : leB b r with
    | false => rfl
    | true =>
      have h1 := h lot hl (cut lot b) (chosen_mem.mpr ⟨b, hb, hs, rfl⟩)
      rw [cut_leB.mpr fun i hi => (leB_pt (vb.len b hb) hr.len).mp q i (p.rg hl i hi)] at h1
      cases h1
/-- what runs leave, lot by lot -/
theorem rem_split (vb : VB k B) (hx : CrOk k x) (hrl : r.length = k) : (Rch B x r ∧ Stk B r) ↔ ∀ lot ∈ lotsM k B, Rch (chosenM B lot) (cut lot x) (cut lot r) ∧ Stk (chosenM B lot) (cut lot r) := by
  have p := lots_pt vb
  have lo := (lots_ok vb).1
  constructor
  · rintro ⟨h1, h2⟩ lot hl
    obtain ⟨q1, q2, q3⟩ := (rch_iff vb hx).mp h1
    refine ⟨(rch_iff (lo lot hl).vb (cut_crok hx)).mpr ⟨cut_crok q1, cut_leB.mpr fun i hi => (leB_pt q1.len hx.len).mp q2 i (p.rg hl i hi), ?_⟩, (stk_split p vb q1).mp h2 lot hl⟩
    rw [← cut_sub (p.rg hl) hx.len q1.len]
    exact q3.cut p vb hl
  · intro h
    have at_ : ∀ j : Int, (0 ≤ j ∧ j < k) → 0 ≤ vAt r j ∧ vAt r j ≤ vAt x j := fun j hj => by
      obtain ⟨lot, hl, hin⟩ := lots_has vb hj
      obtain ⟨q1, q2, _⟩ := (rch_iff (lo lot hl).vb (cut_crok hx)).mp (h lot hl).1
      refine ⟨?_, cut_leB.mp q2 j hin⟩
      have : vAt r j ∈ cut lot r := by rw [cut_eq]; exact List.mem_map.mpr ⟨j, hin, rfl⟩
      exact q1.nn _ this
    have hr : CrOk k r := ⟨hrl, fun y hy => by
      obtain ⟨n, hn⟩ := List.getElem?_of_mem hy
      have hlt := (List.getElem?_eq_some_iff.mp hn).1
      have := (at_ n ⟨by omega, by omega⟩).1
      unfold vAt at this
      rw [Int.toNat_natCast, hn] at this
      exact this⟩
    refine ⟨(rch_iff vb hx).mpr ⟨hr, (leB_pt hr.len hx.len).mpr fun j hj => (at_ j hj).2, ?_⟩, (stk_split p vb hr).mpr fun lot hl => (h lot hl).2⟩
    have hs : CrOk k (subL x r) := sub_cr hx hr.len ((leB_pt hr.len hx.len).mpr fun j hj => (at_ j hj).2)
    refine (clr_split p vb hs).mpr fun lot hl => ?_
    rw [cut_sub (p.rg hl) hx.len hr.len]
    exact ((rch_iff (lo lot hl).vb (cut_crok hx)).mp (h lot hl).1).2.2
/-! rows -/
theorem setAll_go : ∀ (pre : List (Int × Nat)) (row : List Int), (∀ q ∈ pre, 0 ≤ q.1 ∧ q.1 < row.length) → 0 ≤ j → (∀ q ∈ pre, q.1 ≠ j) → vAt (pre.foldl (fun r (q : Int × Nat) => r.set q.1.toNat (vAt e (q.2 : Nat))) row) j = vAt row j
  | [], _, _, _, _ => rfl
  | q :: pre, row, h, hj, hn => by
    rw [List.foldl_cons, setAll_go pre _ (fun r hr => by rw [List.length_set]; exact h r (List.mem_cons_of_mem _ hr)) hj fun r hr => hn r (List.mem_cons_of_mem _ hr)]
    have h1 := h q List.mem_cons_self
    have h2 := hn q List.mem_cons_self
    rw [vAt_set hj (by omega), if_neg (by omega)]
theorem setAll_len0 : (setAll x lot e).length = x.length := by
  unfold setAll
  generalize lot.zipIdx = pre
  induction pre generalizing x with
  | nil => rfl
  | cons q pre ih => rw [List.foldl_cons, ih, List.length_set]
theorem setAll_out (hrg : ∀ i ∈ lot, 0 ≤ i ∧ i < x.length) (hj : 0 ≤ j) (hn : j ∉ lot) : vAt (setAll x lot e) j = vAt x j := by
  unfold setAll
  exact setAll_go _ _ (fun q hq => hrg _ (zipIdx_mem hq).1) hj fun q hq z => hn (z ▸ (zipIdx_mem hq).1)
theorem setAll_at (hrg : ∀ i ∈ lot, 0 ≤ i ∧ i < x.length) (hnd : lot.Nodup) {n : Nat} (hn : lot[n]? = some j) : vAt (setAll x lot e) j = vAt e (n : Nat) := by
  unfold setAll
  have hm : (j, n) ∈ lot.zipIdx := List.mem_zipIdx_iff_getElem?.mpr hn
  obtain ⟨u, v, huv⟩ := List.append_of_mem hm
  have hj := hrg j (List.mem_of_getElem? hn)
  rw [huv, List.foldl_append, List.foldl_cons]
  have hall : ∀ q ∈ u ++ (j, n) :: v, q ∈ lot.zipIdx := fun q hq => huv ▸ hq
  have hlen : ∀ (pre : List (Int × Nat)) (row : List Int), (pre.foldl (fun r (q : Int × Nat) => r.set q.1.toNat (vAt e (q.2 : Nat))) row).length = row.length := by
    intro pre
    induction pre with
    | nil => intro _; rfl
    | cons q pre ih => intro row; rw [List.foldl_cons, ih, List.length_set]
  rw [setAll_go v _ (fun q hq => by
    rw [List.length_set, hlen]
    exact hrg _ (zipIdx_mem (hall q (by simp [hq]))).1) hj.1 fun q hq z => ?_]
  · rw [vAt_set hj.1 (by rw [hlen]; show j.toNat < _; omega), if_pos (by show j = (j.toNat : Int); omega)]
  · -- the same kind stands but once
    have nd : (lot.zipIdx.map (·.1)).Nodup := by
      have : lot.zipIdx.map (·.1) = lot := by
        refine List.ext_getElem (by simp) fun m h1 h2 => ?_
        simp
      rw [this]; exact hnd
    rw [huv, List.map_append, List.map_cons] at nd
    have := (List.nodup_cons.mp (List.nodup_append.mp nd).2.1).1
    exact this (List.mem_map.mpr ⟨q, hq, z⟩)
theorem cut_setAll (hrg : ∀ i ∈ lot, 0 ≤ i ∧ i < x.length) (hnd : lot.Nodup) (he : e.length = lot.length) : cut lot (setAll x lot e) = e := by
  rw [cut_eq]
  refine List.ext_getElem (by simp [he]) fun n h1 h2 => ?_
  rw [List.getElem_map, setAll_at hrg hnd (n := n) (by simp)]
  exact vAt_get h2
theorem cut_out {l2 : List Int} (hrg : ∀ i ∈ lot, 0 ≤ i ∧ i < x.length) (h2 : ∀ i ∈ l2, 0 ≤ i) (hd : ∀ i ∈ l2, i ∉ lot) : cut l2 (setAll x lot e) = cut l2 x := by
  rw [cut_eq, cut_eq]
  exact List.map_congr_left fun i hi => setAll_out hrg (h2 i hi) (hd i hi)
abbrev rowsM (B : List (List Int)) (x : List Int) (k : Nat) (pre : List (List Int)) : List (List Int) := pre.foldl (erLot B x) [zer k]
theorem erLot_flat {fnd : List (List Int)} : erLot B x fnd lot = fnd.flatMap fun row => (lendsM (chosenM B lot) (cut lot x)).map (setAll row lot) := by
  unfold erLot
  have : ∀ (l acc : List (List Int)), l.foldl (fun acc row => acc ++ (lendsM (chosenM B lot) (cut lot x)).map (setAll row lot)) acc = acc ++ l.flatMap fun row => (lendsM (chosenM B lot) (cut lot x)).map (setAll row lot) := by
    intro l
    induction l with
    | nil => intro acc; simp
    | cons r l ih => intro acc; rw [List.foldl_cons, ih, List.flatMap_cons, List.append_assoc]
  rw [this]; simp
structure RwI (k : Nat) (B : List (List Int)) (x : List Int) (pre fnd : List (List Int)) : Prop where
  mem : ∀ r, r ∈ fnd ↔ r.length = k ∧ (∀ lot ∈ pre, cut lot r ∈ lendsM (chosenM B lot) (cut lot x)) ∧ ∀ j : Int, (0 ≤ j ∧ j < k) → j ∉ pre.flatten → vAt r j = 0
  nd : fnd.Nodup
theorem nodup_flat {α : Type} {g : List Int → List α} : ∀ {l : List (List Int)}, l.Nodup → (∀ r ∈ l, (g r).Nodup) → (∀ r ∈ l, ∀ s ∈ l, ∀ t, t ∈ g r → t ∈ g s → r = s) → (l.flatMap g).Nodup
  | [], _, _, _ => by simp
  | r :: l, hn, h1, h2 => by
    obtain ⟨n1, n2⟩ := List.nodup_cons.mp hn
    rw [List.flatMap_cons]
    refine List.nodup_append.mpr ⟨h1 r List.mem_cons_self, nodup_flat n2 (fun s hs => h1 s (List.mem_cons_of_mem _ hs)) (fun s hs t ht => h2 s (List.mem_cons_of_mem _ hs) t (List.mem_cons_of_mem _ ht)), fun p hp q hq e => ?_⟩
    obtain ⟨s, hs, hqs⟩ := List.mem_flatMap.mp hq
    have := h2 r List.mem_cons_self s (List.mem_cons_of_mem _ hs) p hp (e ▸ hqs)
    exact n1 (this ▸ hs)
theorem RwI.step {pre fnd : List (List Int)} (vb : VB k B) (hx : CrOk k x) (lo : LotOk k B lot) (hpre : ∀ l ∈ pre, ∀ i ∈ l, 0 ≤ i ∧ i < k) (hdis : ∀ i ∈ lot, i ∉ pre.flatten) (h : RwI k B x pre fnd) : RwI k B x (pre ++ [lot]) (erLot B x fnd lot) := by
  obtain ⟨la, ln⟩ := lends_all lo.vb (cut_crok (l := lot) hx)
  have hel : ∀ e ∈ lendsM (chosenM B lot) (cut lot x), e.length = lot.length := fun e he => (((la e).mp he).1.cr lo.vb (cut_crok hx)).1.len
  have hzero : ∀ r ∈ fnd, ∀ i ∈ lot, vAt r i = 0 := fun r hr i hi => ((h.mem r).mp hr).2.2 i (lo.rg i hi) (hdis i hi)
  have hrg : ∀ r : List Int, r.length = k → ∀ i ∈ lot, 0 ≤ i ∧ i < r.length := fun r hr i hi => by rw [hr]; exact lo.rg i hi
  have hout : ∀ l ∈ pre, ∀ i ∈ l, i ∉ lot := fun l hl i hi z => hdis i z (List.mem_flatten.mpr ⟨l, hl, hi⟩)
  rw [erLot_flat]
  refine ⟨fun r => ?_, nodup_flat h.nd (fun row hrow => nodup_map ln fun a ha c hc e => ?_) fun r hr s hs t htr hts => ?_⟩
  · rw [List.mem_flatMap]
    constructor
    · rintro ⟨row, hrow, hr⟩
      obtain ⟨e, he, rfl⟩ := List.mem_map.mp hr
      obtain ⟨h1, h2, h3⟩ := (h.mem row).mp hrow
      have hg := hrg row h1
      refine ⟨by rw [setAll_len0, h1], fun l hl => ?_, fun j hj hjn => ?_⟩
      · rcases List.mem_append.mp hl with z | z
        · rw [cut_out hg (fun i hi => (hpre l z i hi).1) (hout l z)]; exact h2 l z
        · rw [List.mem_singleton.mp z, cut_setAll hg lo.nd (hel e he)]; exact he
      · rw [List.flatten_append, List.mem_append, not_or] at hjn
        rw [setAll_out hg hj.1 (by simpa using hjn.2)]
        exact h3 j hj hjn.1
    · rintro ⟨h1, h2, h3⟩
      have hg := hrg r h1
      have hel2 := h2 lot (by simp)
      have hg2 : ∀ i ∈ lot, 0 ≤ i ∧ i < (setAll r lot (zer lot.length)).length := fun i hi => by rw [setAll_len0]; exact hg i hi
      refine ⟨setAll r lot (zer lot.length), (h.mem _).mpr ⟨by rw [setAll_len0, h1], fun l hl => ?_, fun j hj hjn => ?_⟩, List.mem_map.mpr ⟨cut lot r, hel2, ?_⟩⟩
      · rw [cut_out hg (fun i hi => (hpre l hl i hi).1) (hout l hl)]; exact h2 l (List.mem_append_left _ hl)
      · by_cases c : j ∈ lot
        · obtain ⟨n, hn⟩ := List.getElem?_of_mem c
          rw [setAll_at hg lo.nd hn, vAt_zer]
        · rw [setAll_out hg hj.1 c]
          refine h3 j hj ?_
          rw [List.flatten_append, List.mem_append, not_or]
          exact ⟨hjn, by simpa using c⟩
      · refine ext_vAt (k := k) (by rw [setAll_len0, setAll_len0, h1]) h1 fun j p q => ?_
        by_cases c : j ∈ lot
        · obtain ⟨n, hn⟩ := List.getElem?_of_mem c
          rw [setAll_at hg2 lo.nd hn, cut_eq]
          unfold vAt
          rw [List.getElem?_map, Int.toNat_natCast, hn]; rfl
        · rw [setAll_out hg2 p c, setAll_out hg p c]
  · have h1 := ((h.mem row).mp hrow).1
    have := congrArg (cut lot) e
    rw [cut_setAll (hrg row h1) lo.nd (hel a ha), cut_setAll (hrg row h1) lo.nd (hel c hc)] at this
    exact this
  · obtain ⟨e1, _, rfl⟩ := List.mem_map.mp htr
    obtain ⟨e2, _, e3⟩ := List.mem_map.mp hts
    have h1 := ((h.mem r).mp hr).1
    have h2 := ((h.mem s).mp hs).1
    refine ext_vAt h1 h2 fun j p q => ?_
    by_cases c : j ∈ lot
    · rw [hzero r hr j c, hzero s hs j c]
    · have this : vAt (setAll s lot e2) j = vAt (setAll r lot e1) j := congrArg (fun v => vAt v j) e3
      rw [setAll_out (hrg s h2) p c, setAll_out (hrg r h1) p c] at this
      exact this.symm
theorem rows_all (vb : VB k B) (hx : CrOk k x) : ∀ (rest pre fnd : List (List Int)), (∀ l ∈ pre ++ rest, LotOk k B l) → (pre ++ rest).flatten.Nodup → RwI k B x pre fnd → RwI k B x (pre ++ rest) (rest.foldl (erLot B x) fnd)
  | [], pre, fnd, _, _, h => by rw [List.append_nil]; exact h
  | lot :: rest, pre, fnd, hl, hn, h => by
    have e : pre ++ lot :: rest = (pre ++ [lot]) ++ rest := by simp
    rw [e] at hl hn ⊢
    refine rows_all vb hx rest (pre ++ [lot]) _ hl hn (h.step vb hx (hl lot (by simp)) (fun l hl2 => (hl l (by simp [hl2])).rg) fun i hi z => ?_)
    rw [List.flatten_append, List.flatten_append] at hn
    have := (List.nodup_append.mp (List.nodup_append.mp hn).1).2.2 i z i (by simpa using hi)
    exact this rfl
theorem ends_law (vb : VB k B) (hx : CrOk k x) (h8 : x.sum ≤ 8) : endsM (vsort B) x = erM k B (lotsM k B) x := by
  have p := lots_pt vb
  have lo := (lots_ok vb).1
  have h := rows_all vb hx (lotsM k B) [] [zer k] (by simpa using lo) (by simpa using p.nd) ⟨fun r => ?_, by simp⟩
  rotate_left
  · rw [List.mem_singleton]
    constructor
    · rintro rfl
      exact ⟨zer_len, fun _ h => (nomatch h), fun j _ _ => vAt_zer⟩
    · rintro ⟨h1, _, h3⟩
      exact ext_vAt h1 zer_len fun j p q => by rw [h3 j ⟨p, q⟩ (by simp), vAt_zer]
  rw [List.nil_append] at h
  have e1 : endsM (vsort B) x = vsort (endsM (vsort B) x) := by
    have : endsM (vsort B) x = vsort (((waysM (vsort B) x).map (·.1)).filter fun r => decide ((stepsM (vsort B) r).length = 0)) := by unfold endsM; rfl
    rw [this]
    exact vsort_uniq (.refl _) (vsort_pw _)
  have e2 : erM k B (lotsM k B) x = vsort ((lotsM k B).foldl (erLot B x) [zer k]) := by unfold erM; rfl
  rw [e1, e2]
  refine vsort_congr ((List.perm_ext_iff_of_nodup (ends_nodup vb.vs hx) h.nd).mpr fun r => ?_)
  rw [ends_mem vb.vs hx, h.mem]
  have hB : (Rch (vsort B) x r ∧ Stk (vsort B) r) ↔ (Rch B x r ∧ Stk B r) :=
    ⟨fun ⟨a, c⟩ => ⟨a.of fun b hb => vsort_mem.mp hb, fun b hb => c b (vsort_mem.mpr hb)⟩, fun ⟨a, c⟩ => ⟨a.of fun b hb => vsort_mem.mpr hb, fun b hb => c b (vsort_mem.mp hb)⟩⟩
  rw [hB]
  have mem_l : ∀ lot ∈ lotsM k B, (cut lot r ∈ lendsM (chosenM B lot) (cut lot x) ↔ Rch (chosenM B lot) (cut lot x) (cut lot r) ∧ Stk (chosenM B lot) (cut lot r)) := fun lot hl => (lends_all (lo lot hl).vb (cut_crok hx)).1 _
  constructor
  · intro hr
    have hrl := (hr.1.cr vb hx).1.len
    refine ⟨hrl, fun lot hl => (mem_l lot hl).mpr ((rem_split vb hx hrl).mp hr lot hl), fun j hj hjn => ?_⟩
    exact absurd (p.perm.mem_iff.mpr (rangeL_mem.mpr hj)) hjn
  · rintro ⟨hrl, h2, _⟩
    exact (rem_split vb hx hrl).mpr fun lot hl => (mem_l lot hl).mp (h2 lot hl)
end
end N34

set_option Elab.async false
set_option linter.all false
/-! the plain facts together -/
namespace N34
abbrev firstM (B : List (List Int)) : List (List Int) := (B.filter fun b => decide (b.sum < 5)).take 4
theorem vb_firstM {k : Nat} {B : List (List Int)} (h : DbOk k B) (h1 : 1 ≤ k) (h2 : k ≤ 2) : VB k (firstM B) ∧ (firstM B).length ≤ 4 := vb_first h h1 h2
end N34

set_option Elab.async false
set_option linter.all false
set_option maxRecDepth 100000
set_option maxHeartbeats 1000000
/-! _law_ends_right -/
namespace N34
open PySem PySem.Spec PyProof.Rows L2
theorem setAll_snoc {row e : List Int} {pre : List (Int × Nat)} {q : Int × Nat} : (pre ++ [q]).foldl (fun r (q : Int × Nat) => r.set q.1.toNat (vAt e (q.2 : Nat))) row = (pre.foldl (fun r (q : Int × Nat) => r.set q.1.toNat (vAt e (q.2 : Nat))) row).set q.1.toNat (vAt e (q.2 : Nat)) := by
  rw [List.foldl_append]; rfl
theorem setAll_len {e : List Int} : ∀ (pre : List (Int × Nat)) (row : List Int), (pre.foldl (fun r (q : Int × Nat) => r.set q.1.toNat (vAt e (q.2 : Nat))) row).length = row.length
  | [], _ => rfl
  | q :: pre, row => by rw [List.foldl_cons, setAll_len pre, List.length_set]
abbrev erRow (B : List (List Int)) (x lot : List Int) (acc : List (List Int)) (row : List Int) : List (List Int) := acc ++ (lendsM (chosenM B lot) (cut lot x)).map (setAll row lot)
theorem erLot_def {B : List (List Int)} {x lot : List Int} {found : List (List Int)} : erLot B x found lot = found.foldl (erRow B x lot) [] := by unfold erLot; rfl
theorem erRow_len {B : List (List Int)} {x lot : List Int} : ∀ (pre : List (List Int)) (acc : List (List Int)), (pre.foldl (erRow B x lot) acc).length = acc.length + pre.length * (lendsM (chosenM B lot) (cut lot x)).length
  | [], acc => by simp
  | r :: pre, acc => by rw [List.foldl_cons, erRow_len pre]; simp only [List.length_append, List.length_map, List.length_cons, Nat.succ_mul]; omega
theorem erRow_rows {B : List (List Int)} {x lot : List Int} {k : Nat} : ∀ (pre : List (List Int)) (acc : List (List Int)), (∀ r ∈ pre, r.length = k) → (∀ r ∈ acc, r.length = k) → ∀ r ∈ pre.foldl (erRow B x lot) acc, r.length = k
  | [], acc, _, h => h
  | r :: pre, acc, h1, h2 => erRow_rows pre _ (fun q hq => h1 q (List.mem_cons_of_mem _ hq)) fun q hq => by
    rcases List.mem_append.mp hq with z | z
    · exact h2 q z
    · obtain ⟨e, _, rfl⟩ := List.mem_map.mp z
      unfold setAll
      rw [setAll_len]; exact h1 r List.mem_cons_self
structure ErI (k n : Nat) (found : List (List Int)) : Prop where
  rows : ∀ r ∈ found, r.length = k
  few : found.length ≤ 9 ^ n
theorem ErI.step {k n : Nat} {B : List (List Int)} {x lot : List Int} {found : List (List Int)} (hl : LotOk k B lot) (hx : CrOk k x) (h8 : x.sum ≤ 8) (h : ErI k n found) : ErI k (n + lot.length) (erLot B x found lot) := by
  obtain ⟨hc, hs⟩ := cut_cr hl hx
  obtain ⟨_, h2⟩ := lends_ok hl.vb hc (by omega)
  rw [erLot_def]
  refine ⟨erRow_rows found [] h.rows (fun _ h => (nomatch h)), ?_⟩
  rw [erRow_len, Nat.pow_add]
  have := Nat.mul_le_mul h.few h2
  simpa using this
theorem ErI.fold {k : Nat} {B : List (List Int)} {x : List Int} (hx : CrOk k x) (h8 : x.sum ≤ 8) : ∀ (pre : List (List Int)) (n : Nat) (found : List (List Int)), (∀ lot ∈ pre, LotOk k B lot) → ErI k n found → ErI k (n + (pre.map (·.length)).sum) (pre.foldl (erLot B x) found)
  | [], n, found, _, h => by simpa using h
  | lot :: pre, n, found, hl, h => by
    have := ErI.fold hx h8 pre _ _ (fun l h => hl l (List.mem_cons_of_mem _ h)) (h.step (hl lot List.mem_cons_self) hx h8)
    rw [List.map_cons, List.sum_cons, ← Nat.add_assoc]
    exact this
theorem ErI.zero {k : Nat} : ErI k 0 [zer k] := ⟨fun r hr => by rw [List.mem_singleton.mp hr]; exact zer_cr.len, by simp⟩
local macro_rules | `(tactic| walk_at "sz") => `(tactic| first | omega | (simp only [List.length_zip, List.length_map, List.length_range, List.length_zipIdx]; omega) | exact ⟨by omega, by omega⟩)
local macro_rules | `(tactic| walk_at "leg") => `(tactic| repeat (first | exact LeG.nil | apply LeG.keep | apply LeG.drop))
local macro_rules | `(tactic| walk_at "sd") => `(tactic| first | trivial | assumption | omega)
section
variable {P : Program} {w : World} {K : PySem.W.Frag} {mg : Str → Option Value} {base : Heap} {C : Addr}
structure ErP (C : Addr) (vs : List V) (F : Hp) (R : RV) (k : Nat) (Bb B : List (List Int)) (x : List Int) : Prop where
  ar : AllR [isBk C k Bb, isD (.int k), isD (lvec B), isD (lvec (lotsM k B)), isD (vec x)] vs F
  vb : VB k B
  vbb : VB k Bb
  cr : CrOk k x
  s8 : x.sum ≤ 8
  eq : endsM Bb x = erM k B (lotsM k B) x
  res : ∀ v F', Dt F' v (.bool true) → R v F'
abbrev sEr (C : Addr) := spF fun vs F R => ∃ k Bb B x, ErP C vs F R k Bb B x



-- def _law_ends_right _law_book_here:B _law_kinds:i _law_batches:lv _law_lots_here:lv _law_crowd:v
theorem scLawEndsRight : FnScope ["_law_book_here", "_law_kinds", "_law_batches", "_law_lots_here", "_law_crowd", "_law_found", "_law_lot", "_law_longer", "_law_row", "_law_end", "_law_kind", "_law_more_here", "_law_at"] ["_law_book_here", "_law_kinds", "_law_batches", "_law_lots_here", "_law_crowd"] (defScope sLawEndsRight) := ⟨rfl, rfl, rfl, by decide +kernel, rfl, by decide +kernel, by decide +kernel⟩
theorem ok_lawEndsRight (B : Bl mg) (T : BkF K C) (F : FnAt K mg "_law_ends_right" sLawEndsRight) (c__law_ends : Cl P w K mg base "_law_ends" 2 ["_law_batches", "_law_crowd"] sLen) (c__law_part : Cl P w K mg base "_law_part" 1 ["_law_batches", "_law_lot"] sLpt) (c_all_ends : Cl P w K mg base "all_ends" 4 ["book", "crowd"] (sAe C)) :
    ClG P w K mg base "_law_ends_right" 5 ["_law_book_here", "_law_kinds", "_law_batches", "_law_lots_here", "_law_crowd"] (sEr C) := by
  obtain ⟨f, fd, Fd, hm⟩ := F.ex
  refine ⟨f, fd, FnG.of Fd scLawEndsRight (fun vs H Q E ⟨_, _, _, ⟨_, _, _, _, h⟩, _⟩ => h.ar.length) (fun cdv A outer s H vs Q E hgu hr h => ?_), hm, Fd.kp, Fd.bindsN fun _ _ _ _ _ _ us hl => match us, hl with | [_, _, _, _, _], _ => rfl⟩
  obtain ⟨S, R, al, ⟨k, Bb, Bt, x, ha, vb, vbb, hx, h8, heq, hR⟩, q⟩ := h
  have h5 := vb.le
  have hpos := vb.pos
  have h84 := vb.few
  have g := Sg.start (Rs := [isBk C k Bb, isD (.int k), isD (lvec Bt), isD (lvec (lotsM k Bt)), isD (vec x)]) (N := ["_law_book_here", "_law_kinds", "_law_batches", "_law_lots_here", "_law_crowd", "_law_found", "_law_lot", "_law_longer", "_law_row", "_law_end", "_law_kind", "_law_more_here", "_law_at"]) al (⟨isBk_mono _ _ _, isD_mono _, isD_mono _, isD_mono _, isD_mono _, trivial⟩ : MonoA [isBk C k Bb, isD (.int k), isD (lvec Bt), isD (lvec (lotsM k Bt)), isD (vec x)]) ha (by rw [ha.length]; exact Nat.le_of_ble_eq_true rfl)
  obtain ⟨hlots, hsum⟩ := lots_ok vb
  have hxl := hx.len

  refine gs_set g (i := 5) scLawEndsRight.nd (r_eq (d' := .list ([zer k].map lint)) (r_lstE lint [_] (ra_D (r_repI (r_lstI (ra_I r_int ra_nilI)) (g_v g (pv 1) rfl) (by omega)) ra_nil)) (by simp [zer_def])) (isD_mono _) fun σ1 H1 g1 => ?_

  refine gs_for g1 PassesOwn.never rfl (w_list (g_v g1 (pv 3) rfl)) (pg_name (i := 6) scLawEndsRight.nd rfl (by first | exact Or.inl rfl | exact Or.inr rfl)) (fun pre => [some (isBk C k Bb), some (isD (.int k)), some (isD (lvec Bt)), some (isD (lvec (lotsM k Bt))), some (isD (vec x)), some (isD (.list ((pre.foldl (erLot Bt x) [zer k]).map lint))), none, none, none, none, none, none, none]) (fun _ => []) (fun H' g' => g'.le (by walk_at "leg")) (fun B1 pre lot post hpl σ2 H2 v2 g2 hv2 => ?_) (fun σ2 H2 g2 => ?_)
  · have hlm : lot ∈ lotsM k Bt := by rw [hpl]; simp
    have hlot := hlots lot hlm
    have hfi := ErI.zero.fold hx h8 pre 0 [zer k] (fun l hl => hlots l (by rw [hpl]; simp [hl]))
    have hps : (pre.map (·.length)).sum + lot.length ≤ k := by
      rw [← hsum, hpl]; simp <;> omega
    simp only [List.foldl_append, List.foldl_cons, List.foldl_nil]
    generalize pre.foldl (erLot Bt x) [zer k] = fnd at g2 hfi
    obtain ⟨hcc, hcs⟩ := cut_cr hlot hx
    obtain ⟨hle1, hle2⟩ := lends_ok hlot.vb hcc (by omega)
    have k4 := vb.le4
    have hll := hlot.le
    have hfw : fnd.length ≤ 9 ^ 4 := Nat.le_trans hfi.few (Nat.pow_le_pow_right (by decide) (by omega))
    have hlw : fnd.length * (lendsM (chosenM Bt lot) (cut lot x)).length ≤ 9 ^ 4 := by
      refine Nat.le_trans (Nat.mul_le_mul hfi.few hle2) ?_
      rw [← Nat.pow_add]
      exact Nat.pow_le_pow_right (by decide) (by omega)
    rw [erLot_def]
    refine gst_name g2 rfl (isD_mono _) hv2 fun σ3 g3 => ?_
    refine gs_newL (i := 7) (ds := []) g3 scLawEndsRight.nd ra_nil fun la σ4 H4 hla g4 => ?_

    refine gs_for g4 PassesOwn.never rfl (w_list (g_v g4 (pv 5) rfl)) (pg_name (i := 8) scLawEndsRight.nd rfl (by first | exact Or.inl rfl | exact Or.inr rfl)) (fun _ => [some (isBk C k Bb), some (isD (.int k)), some (isD (lvec Bt)), some (isD (lvec (lotsM k Bt))), some (isD (vec x)), some (isD (.list (fnd.map lint))), some (isD (vec lot)), some (isR la), none, none, none, none, none]) (fun pre2 => [(la, lisC ((pre2.foldl (erRow Bt x lot) []).map lint))]) (fun H' g' => g'.le (by walk_at "leg")) (fun B2 pre2 row post2 hrow σ5 H5 v5 g5 hv5 => ?_) (fun σ5 H5 g5 => ?_)
    · have hrl := hfi.rows row (by rw [hrow]; simp)
      have hac := erRow_len (B := Bt) (x := x) (lot := lot) pre2 []
      have hfl : fnd.length = pre2.length + 1 + post2.length := by rw [hrow]; simp; omega
      simp only [List.foldl_append, List.foldl_cons, List.foldl_nil]
      generalize pre2.foldl (erRow Bt x lot) [] = acc at g5 hac
      refine gst_name g5 rfl (isD_mono _) hv5 fun σ6 g6 => ?_


      refine gs_for g6 PassesOwn.never rfl (w_list (r_callD c__law_ends (hr.mono (by omega)) (p := (lot.length, chosenM Bt lot, cut lot x)) rfl (ra_D (r_callD c__law_part (hr.mono (by omega)) (p := (Bt, lot)) rfl (ra_D (g_v g6 (pv 2) rfl) (ra_D (g_v g6 (pv 6) rfl) ra_nil)) ⟨fun b hb i hi => by have := hlot.rg i hi; have := vb.len b hb; exact ⟨by omega, by omega⟩, by dsimp only; omega, by dsimp only; omega⟩) (ra_D (r_eq (d' := vec (cut lot x)) (r_tupleL B.tuple (r_lcA (own := [("_law_kind", 10)]) .int rfl scLawEndsRight.nd (w_tup (g_v g6 (pv 6) rfl)) (blkOk_by (N := ["_law_book_here", "_law_kinds", "_law_batches", "_law_lots_here", "_law_crowd", "_law_found", "_law_lot", "_law_longer", "_law_row", "_law_end", "_law_kind", "_law_more_here", "_law_at"]) (sc := defScope sLawEndsRight) (by decide +kernel)) (fun _ _ _ _ _ => pg_name (i := 10) scLawEndsRight.nd rfl (by first | exact Or.inl rfl | exact Or.inr rfl)) (by walk_at "sz") (it_name g6 (j := 10) (by decide) rfl (fun _ => isD_mono _) (fun a1 ha1 _ _ _ g1 => ⟨b_nil, fun hp1 _ _ _ _ _ => (r_ixT (g_v g1 (pv 4) rfl) (g_v g1 (pv 10) rfl) (by exact atI_v (by have := hlot.rg _ ‹_›; omega)))⟩)))) (by simp only [cut_def])) ra_nil)) ⟨hlot.vb, hcc, by show (cut lot x).sum ≤ 8; omega⟩)) ((pg_name (i := 9) scLawEndsRight.nd rfl (by first | exact Or.inl rfl | exact Or.inr rfl))) (fun _ => [some (isBk C k Bb), some (isD (.int k)), some (isD (lvec Bt)), some (isD (lvec (lotsM k Bt))), some (isD (vec x)), some (isD (.list (fnd.map lint))), some (isD (vec lot)), some (isR la), some (isD (lint row)), none, none, none, none]) (fun pre3 => [(la, lisC ((acc ++ pre3.map (setAll row lot)).map lint))]) (fun H' g' => ?_) (fun B3 pre3 e post3 he σ7 H7 v7 g7 hv7 => ?_) (fun σ7 H7 g7 => sw_nil (g7.le (by walk_at "leg")))

      · simp only [List.map_nil, List.append_nil]
        exact g'.le (by walk_at "leg")
      · have hel := (hle1 e (by rw [he]; simp)).len
        have hpl3 : pre3.length < (lendsM (chosenM Bt lot) (cut lot x)).length := by rw [he]; simp <;> omega
        have hal : acc.length + pre3.length < 9 ^ 4 := by
          have h1 : (pre2.length + 1) * (lendsM (chosenM Bt lot) (cut lot x)).length ≤ fnd.length * (lendsM (chosenM Bt lot) (cut lot x)).length := Nat.mul_le_mul_right _ (by omega)
          rw [Nat.succ_mul] at h1
          simp only [List.length_nil, Nat.zero_add] at hac
          omega
        refine gst_name g7 rfl (isD_mono _) hv7 fun σ8 g8 => ?_
        refine sx_set scLawEndsRight.nd (i := 11) (se_newLs g8 B.list (g_v g8 (pv 8) rfl) fun mh H9 hmh g9 => ?_)
        have g10 := g9.set (i := 11) (blt rfl) (isR_mono mh) rfl
        refine gs_for g10 PassesOwn.never rfl (w_enumT B.enumerate (g_v g10 (pv 6) rfl)) (pg_tup rfl (pgs_cons (pg_name (i := 12) scLawEndsRight.nd rfl (by first | exact Or.inl rfl | exact Or.inr rfl)) (pgs_cons (pg_name (i := 10) scLawEndsRight.nd rfl (by first | exact Or.inl rfl | exact Or.inr rfl)) pgs_nil))) (fun _ => [some (isBk C k Bb), some (isD (.int k)), some (isD (lvec Bt)), some (isD (lvec (lotsM k Bt))), some (isD (vec x)), some (isD (.list (fnd.map lint))), some (isD (vec lot)), some (isR la), some (isD (lint row)), some (isD (vec e)), none, some (isR mh), none]) (fun pre4 => [(mh, lisC ((pre4.foldl (fun r (q : Int × Nat) => r.set q.1.toNat (vAt e (q.2 : Nat))) row).map .int)), (la, lisC ((acc ++ pre3.map (setAll row lot)).map lint))]) (fun H' g' => g'.le (by walk_at "leg")) (fun B4 pre4 qq post4 hq σ11 H11 v11 g11 hv11 => ?_) (fun σ11 H11 g11 => ?_)
        · have hqm : qq ∈ lot.zipIdx := by rw [hq]; simp
          have hq1 := hlot.rg _ (zipIdx_mem hqm).1
          have hq2 := zipIdx_lt hqm
          rw [setAll_snoc]
          have hsl := setAll_len (e := e) pre4 row
          generalize pre4.foldl (fun r (q : Int × Nat) => r.set q.1.toNat (vAt e (q.2 : Nat))) row = rw2 at g11 hsl
          refine gst_pair g11 rfl rfl (isD_mono _) (isD_mono _) hv11 fun σ12 g12 => ?_
          refine gs_lput (j := 0) (k := qq.1) (n := qq.1.toNat) g12 (r_ixT (g_v g12 (pv 9) rfl) (g_v g12 (pv 12) rfl) (atI_v (x := e) ⟨by omega, by omega⟩)) (fun _ gg => g_v gg (pv 11) rfl) (fun _ gg => g_v gg (pv 10) rfl) rfl (ixN_rg hq1.1 (by rw [List.length_map]; omega)) fun H13 g13 => sw_nil ?_
          rw [List.map_set]
          exact g13.le (by walk_at "leg")
        · have g12 := g11.freeze (S := la :: S) (i := 11) (j := 0) (fun b hb => List.mem_cons_of_mem _ hb) hmh rfl rfl (fun q hq => by simp only [List.eraseIdx, List.mem_cons, List.not_mem_nil, or_false] at hq; rw [hq]; exact List.mem_cons_self)


          refine gs_exprG g12 (e_app (j := 0) (e_of fun _ _ gg => (g_v gg (pv 7) rfl)) rfl (e_of fun _ _ gg => (g_v gg (pv 11) rfl)) rfl (by simp only [List.length_map, List.length_append]; omega)) fun H13 g13 => sw_nil ?_

          have e1 : lot.zipIdx.foldl (fun r (q : Int × Nat) => r.set q.1.toNat (vAt e (q.2 : Nat))) row = setAll row lot e := by unfold setAll; rfl
          simp only [List.map_append, List.map_cons, List.map_nil, ← List.append_assoc]
          simp only [e1, List.map_append] at g13
          exact g13.le (by walk_at "leg")
    · refine gs_set g5 (i := 5) scLawEndsRight.nd (g_v g5 (pv 7) rfl) (isR_mono _) fun σ6 H6 g6 => sw_nil ?_
      exact (g6.freeze (S := S) (i := 5) (j := 0) (fun b hb => List.mem_cons_of_mem _ hb) hla rfl rfl (fun q hq => by simp at hq)).le (by walk_at "leg")
  · have hfi := ErI.zero.fold hx h8 (lotsM k Bt) 0 [zer k] hlots
    obtain ⟨he1, he2⟩ := ends_ok vbb hx h8
    rw [hsum] at hfi
    have k4 := vb.le4
    have hfw : ((lotsM k Bt).foldl (erLot Bt x) [zer k]).length ≤ 9 ^ 4 := Nat.le_trans hfi.few (Nat.pow_le_pow_right (by decide) (by omega))
    have heq2 : endsM Bb x = vsort ((lotsM k Bt).foldl (erLot Bt x) [zer k]) := by rw [heq]; unfold erM; rfl
    generalize (lotsM k Bt).foldl (erLot Bt x) [zer k] = fnd at *
    have hrp := tvec_rp he1 he2
    refine gs_ret g2 (r_eq (r_eqS (r_repr hgu (hu4 hr) B.repr (r_callD c_all_ends (hr.mono (by omega)) (p := (k, Bb, x)) rfl (ra_cons (isBk_mono _ _ _) (g_v g2 (pv 0) rfl) (ra_D (g_v g2 (pv 4) rfl) ra_nil)) ⟨vbb, hx, h8⟩) hrp) (r_repr hgu (hu4 hr) B.repr (r_eq (d' := tvec (endsM Bb x)) (r_tupleL B.tuple (r_sortV (nss := fnd) B.sorted ?_ ?_)) (by rw [heq2])) hrp)) (by rw [decide_eq_true rfl])) fun v H' g' r => ?_

    · exact r_eq (r_lcA (own := [("_law_row", 8)]) vec rfl scLawEndsRight.nd (w_list (g_v g2 (pv 5) rfl)) (blkOk_by (N := ["_law_book_here", "_law_kinds", "_law_batches", "_law_lots_here", "_law_crowd", "_law_found", "_law_lot", "_law_longer", "_law_row", "_law_end", "_law_kind", "_law_more_here", "_law_at"]) (sc := defScope sLawEndsRight) (by decide +kernel)) (fun _ _ _ _ _ => pg_name (i := 8) scLawEndsRight.nd rfl (by first | exact Or.inl rfl | exact Or.inr rfl)) (by walk_at "sz") (it_name g2 (j := 8) (by decide) rfl (fun _ => isD_mono _) (fun a2 ha2 _ _ _ g2 => ⟨b_nil, fun hp2 _ _ _ _ _ => (r_tupleL B.tuple (g_v g2 (pv 8) rfl))⟩))) (by rw [map_self])
    · intro c hc e; have := hfi.rows c hc; rw [e] at this; simp at this; omega
    · obtain ⟨e, h⟩ := fin_D g' (fun _ h => h) r hR
      exact q _ _ e h
end
end N34

set_option Elab.async false
set_option linter.all false
set_option maxRecDepth 100000
set_option maxHeartbeats 1000000
/-! rules for the law itself -/
namespace N34
open PySem PySem.Spec PyProof.Rows L2
section
variable {S S' : List Addr} {Bs : List Hp} {Γ Γ2 : Ga} {M M' : Ce} {σ : L2.St} {H H' : Hp} {l1 l2 : Addr} {C1 C2 : CR} {o1 o2 : HO}
/-- two new cells -/
theorem Sg.cell2 (g : Sg S Bs Γ M σ H) (e : Ex H H') (h1 : H l1 = none) (h2 : H l2 = none) (hne : l1 ≠ l2) (k1 : H' l1 = some o1) (k2 : H' l2 = some o2) (m1 : MonoC C1) (m2 : MonoC C2) (c1 : C1 o1 (hid (l1 :: l2 :: S) H')) (c2 : C2 o2 (hid (l1 :: l2 :: S) H')) : Sg (l1 :: l2 :: S) Bs Γ ((l1, C1) :: (l2, C2) :: M) σ H' := by
  have u : Up S H (l1 :: l2 :: S) H' := ⟨e, fun b hb => List.mem_cons_of_mem _ (List.mem_cons_of_mem _ hb), fun b hb => by
    rcases List.mem_cons.mp hb with z | z
    · exact .inr (by rw [z]; exact h1)
    rcases List.mem_cons.mp z with z | z
    · exact .inr (by rw [z]; exact h2)
    · exact .inl z, ((g.al.ex e).cons k2 (m2.nt _ _ c2)).cons k1 (m1.nt _ _ c1)⟩
  have g' := g.up u
  have no : ∀ {l : Addr}, H l = none → l ∉ M.map (·.1) := fun {l} hl z => by
    obtain ⟨p, hp, ep⟩ := List.mem_map.mp z
    obtain ⟨_, _, _, o, q, _⟩ := g.ce p hp
    have ep' : p.1 = l := ep
    rw [ep', hl] at q; cases q
  refine ⟨g'.al, g'.ex, g'.len, g'.sl, fun p hp => ?_, List.nodup_cons.mpr ⟨fun z => ?_, List.nodup_cons.mpr ⟨no h2, g.nd⟩⟩⟩
  · rcases List.mem_cons.mp hp with z | z
    · rw [z]; exact ⟨List.mem_cons_self, fun B hB => (g.ex B hB).free h1, m1, o1, k1, c1⟩
    rcases List.mem_cons.mp z with z | z
    · rw [z]; exact ⟨List.mem_cons_of_mem _ List.mem_cons_self, fun B hB => (g.ex B hB).free h2, m2, o2, k2, c2⟩
    · exact g'.ce p z
  · rcases List.mem_cons.mp z with z | z
    · exact hne z
    · exact no h1 z
end
section
variable {X : Cx} {S : List Addr} {Bs : List Hp} {Γ : Ga} {M M' M1 M2 Ma Mb : Ce} {R Ra Rb Rz : RV} {a b c e : Expr} {es : List Expr} {pos p p2 pos2 : Pos} {d : PyData} {σ σ0 : L2.St} {H H0 : Hp} {C Rf : Addr} {k : Nat} {B : List (List Int)} {Q : VK} {D : Ends} {rest : List Stmt}
theorem et_orF {y : Bool} (ha : ∀ σ H, Sg S Bs Γ M σ H → PT X a (tRT S σ H false)) (hb : PT X b (tGT S Bs Γ M M' y)) : PT X (.BoolOp .Or [a, b] pos) (tGT S Bs Γ M M' y) :=
  PT_imp (pw_or (et_of ha) (pw_or1 hb)).pt fun σ H Q ⟨g, k⟩ => ⟨g, fun H1 g1 e1 => iteF <| ⟨g1, fun H2 g2 e2 => k H2 g2 (e1.trans e2)⟩⟩
theorem PT_tGT_eq {y y' : Bool} (h : PT X c (tGT S Bs Γ M M' y)) (q : y = y') : PT X c (tGT S Bs Γ M M' y') := q ▸ h
theorem et_neS {i j : Str} (ha : PE X a (tG S Bs Γ M M1 (isD (.str i)))) (hb : PE X b (tG S Bs Γ M1 M2 (isD (.str j)))) : PT X (.Compare a [.NotEq] [b] pos) (tGT S Bs Γ M M2 (!decide (i = j))) :=
  PT_imp (pt_cmpR op_ne ha hb (nomark _)) fun σ H Q ⟨g, k⟩ => ⟨g, fun x H1 g1 e1 rx => ⟨g1, fun y H2 g2 e2 ry => by
    have h1 := rx.strI
    have h2 := ry.strI
    subst h1 h2
    refine ⟨rfl, _, rfl, ?_⟩
    have e : decide (V.str i = V.str j) = decide (i = j) := by
      by_cases q : i = j
      · rw [q]; simp
      · rw [decide_eq_false q, decide_eq_false (fun z => q (V.str.inj z))]
    rw [e]; exact k H2 g2 (e1.trans e2)⟩⟩
theorem e_reprB {x : Bool} (hm : X.mg "repr" = none) (ha : PE X a (tG S Bs Γ M M1 (isD (.bool x)))) (hgl : Gl X "repr" := by rfl) (hs : starEach [a] X.env = (false, eval a X.env) :: starEach [] X.env := by rfl) : PE X (.Call (.Name "repr" p) [a] [] pos) (tG S Bs Γ M M1 (isD (.str (PyData.shown (.bool x))))) :=
  e_callB call_reprB hm (by decide +kernel) (ea_cons (isD_mono _) ha ea_nil hs) (fun vs H _ h Q k => by
    obtain ⟨v, ws, rfl, h1, h2⟩ := h
    obtain rfl : ws = [] := h2
    exact ⟨x, by rw [h1.blI], k _ H (Ex.refl _) (.str _)⟩) hgl (he := hs)
theorem e_andT {y : Bool} (ha : PE X a (tG S Bs Γ M M1 (isD (.bool true)))) (hb : PE X b (tG S Bs Γ M1 M2 (isD (.bool y)))) : PE X (.BoolOp .And [a, b] pos) (tG S Bs Γ M M2 (isD (.bool y))) :=
  PE_imp (pe_and ha (pe_one hb)) fun σ H Q ⟨g, k⟩ => ⟨g, fun v H1 g1 e1 rv => ⟨true, rv.blI, iteT <| ⟨g1, fun v H2 g2 e2 r => k v H2 g2 (e1.trans e2) r⟩⟩⟩
/-- is_safe(Book(..)): nothing that stood is changed -/
theorem r_safeNew (T : MkB X.prog X.w X.K X.mg X.base C) (Cs : Cl X.prog X.w X.K X.mg X.base "is_safe" 27 ["book"] (sAl C sfRes)) (hr : Room 27 X.A) (ha : PA X [b, c] (tRA S σ0 H0 [isD (.int k), isD (lvec B)])) (vb : VB k B) (vb2 : VB k (vsort B)) (hg : Gl X "is_safe" := by rfl) (hg2 : Gl X "Book" := by rfl) (he : starEach [b, c] X.env = (false, eval b X.env) :: starEach [c] X.env := by rfl) (hpl : (backTo pos2 (starEach [c] X.env)).any (·.1) = false := by rfl)
    (he2 : starEach [.Call (.Name "Book" p2) [b, c] [] pos2] X.env = (false, eval (.Call (.Name "Book" p2) [b, c] [] pos2) X.env) :: starEach [] X.env := by rfl) (hpl2 : (backTo pos (starEach [] X.env)).any (·.1) = false := by rfl) : PE X (.Call (.Name "is_safe" p) [.Call (.Name "Book" p2) [b, c] [] pos2] [] pos) (tR S σ0 H0 (isD (.bool (safeM k (vsort B))))) := by
  obtain ⟨f, fd, F, hm, hk, hb⟩ := Cs.ok
  refine PE_imp (pe_call F hr hg hm hk hb .nil pass0 (pa_cons pe_SE pa_nil he2) (by decide) he2 hpl2) fun σ H Q ⟨es, ex, al, kk⟩ => ?_
  subst es
  refine se_book T (hr.mono (by omega)) ha vb ex al (fun x dd H2 e hx hd hdk hB => ?_) hg2 he hpl
  have al2 : Al (dd :: S) H2 := (al.ex e).cons hdk .dK
  refine ⟨dd :: S, [(dd, eqC (.dK []))], [(dd, anyK)], isD (.bool (safeM k (vsort B))), al2, CeOk.one List.mem_cons_self (eqC_mono .dK) hdk rfl, ⟨k, vsort B, dd, ⟨_, [], rfl, hB, rfl⟩, vb2, rfl, rfl, fun _ _ h => h⟩, rfl, fun v H' e3 c r => kk v H' (fun b o hb' => ?_) (r.mono hid_tl)⟩
  refine e3 b o ?_
  rw [hid_out (fun z => ?_)]
  · exact e b o hb'
  · have z' : b = dd := by simpa using z
    rw [z', hd] at hb'; cases hb'
/-- part(kinds = a, book = b) of a lot, as an expression -/
theorem se_part {q1 q2 : Pos} {l : List Int} (Cp : ClF X.prog X.w X.K X.mg X.base (L2.CX X.prog X.w) "part" sPart 7 ["book", "kinds"] (spPt C Rf)) (hr : Room 7 X.A) (g : Sg S Bs Γ M σ H) (ha : PE X a (tR S σ H (isD (vec l)))) (hb : ∀ H, Sg S Bs Γ M σ H → PE X b (tR S σ H (isBk C k B))) (vb : VB k B) (hl : l ∈ partsM k B) (vb2 : VB l.length (chosenM B l))
    (q : ∀ x d H2, Sg (d :: S) Bs Γ ((d, eqC (.dK [])) :: M) σ H2 → isB C l.length (vsort (chosenM B l)) d (.ref x) (hid (d :: S) H2) → Q (.ref x) H2)
    (hg : Gl X "part" := by rfl) (hks : (backToKw pos (keywordEach [⟨some "kinds", a, q1⟩, ⟨some "book", b, q2⟩] X.env)).filterMap (·.1) = ([("kinds" : Str), ("book" : Str)] : List Str) := by rfl) (hall : (backToKw pos (keywordEach [⟨some "kinds", a, q1⟩, ⟨some "book", b, q2⟩] X.env)).all (·.1.isSome) = true := by rfl)
    (hpl : ((backTo pos (starEach [] X.env)).any (·.1) || (backToKw pos (keywordEach [⟨some "kinds", a, q1⟩, ⟨some "book", b, q2⟩] X.env)).any (·.1.isNone)) = false := by rfl) : SE X (.Call (.Name "part" p) [] [⟨some "kinds", a, q1⟩, ⟨some "book", b, q2⟩] pos) σ H Q := by
  obtain ⟨fp, fdp, Fp, hmp, Fdp⟩ := Cp.ok
  refine se_of (pe_callK0 (E := fun _ => E0) (ks := ["kinds", "book"]) (g := swap2) (gV := swap2) Fp hr hg hmp Fdp.kp (FunD.kwN Fdp fun _ _ _ _ _ _ ws hl => match ws, hl with | [_, _], _ => rfl) swap2_rel (fun zs H Q E ⟨_, _, _, _, _, h, _⟩ => (swap2_len zs).symm.trans h.length) (fun σ => fun _ _ _ _ _ _ ⟨_, _, _, _, _, _, _, _, _, _, _, _, h⟩ => h.elim) (pk_cons pe_SE (pk_cons pe_SE pk_nil)) hall hks (by decide) hpl) ?_
  refine se_g g ha fun x1 H1 g1 e1 r1 => se_g g1 (hb H1 g1) fun x2 H2 g2 e2 r2 => ?_
  unfold tNil
  simp only [swap2]
  refine ⟨S, k, B, vec l, g2.al, ⟨_, _, rfl, r2, _, _, rfl, (isD_mono _) _ _ _ (hid_ex e2) r1, rfl⟩, vb, .inl ⟨l, rfl, hl, vb2, fun x d H3 e3 ha3 hd3 hdk hB => ?_⟩⟩
  exact q x d H3 (g2.cell e3 hd3 hdk (eqC_mono .dK) rfl) hB
theorem se_beside {q1 q2 : Pos} {k1 k2 : Nat} {B1 B2 : List (List Int)} (Cb : ClF X.prog X.w X.K X.mg X.base CX0 "beside" sBeside 6 ["one", "other"] (sBs C)) (hr : Room 6 X.A) (g : Sg S Bs Γ M σ H) (ha : PE X a (tR S σ H (isBk C k2 B2))) (hb : ∀ H, Sg S Bs Γ M σ H → PE X b (tR S σ H (isBk C k1 B1))) (hs : b2S ((k1, B1), (k2, B2)))
    (q : ∀ x d H2, Sg (d :: S) Bs Γ ((d, eqC (.dK [])) :: M) σ H2 → isB C (k1 + k2) (vsort (besideM ((k1, B1), (k2, B2)))) d (.ref x) (hid (d :: S) H2) → Q (.ref x) H2)
    (hg : Gl X "beside" := by rfl) (hks : (backToKw pos (keywordEach [⟨some "other", a, q1⟩, ⟨some "one", b, q2⟩] X.env)).filterMap (·.1) = ([("other" : Str), ("one" : Str)] : List Str) := by rfl) (hall : (backToKw pos (keywordEach [⟨some "other", a, q1⟩, ⟨some "one", b, q2⟩] X.env)).all (·.1.isSome) = true := by rfl)
    (hpl : ((backTo pos (starEach [] X.env)).any (·.1) || (backToKw pos (keywordEach [⟨some "other", a, q1⟩, ⟨some "one", b, q2⟩] X.env)).any (·.1.isNone)) = false := by rfl) : SE X (.Call (.Name "beside" p) [] [⟨some "other", a, q1⟩, ⟨some "one", b, q2⟩] pos) σ H Q := by
  obtain ⟨fp, fdp, Fp, hmp, Fdp⟩ := Cb.ok
  refine se_of (pe_callK0 (E := fun _ => E0) (ks := ["other", "one"]) (g := swap2) (gV := swap2) Fp hr hg hmp Fdp.kp (FunD.kwN Fdp fun _ _ _ _ _ _ ws hl => match ws, hl with | [_, _], _ => rfl) swap2_rel (fun zs H Q E ⟨_, _, _, _, ⟨_, h, _⟩, _⟩ => (swap2_len zs).symm.trans h.length) (fun σ => pass0At) (pk_cons pe_SE (pk_cons pe_SE pk_nil)) hall hks (by decide) hpl) ?_
  refine se_g g ha fun x1 H1 g1 e1 r1 => se_g g1 (hb H1 g1) fun x2 H2 g2 e2 r2 => ?_
  unfold tNil
  simp only [swap2]
  refine ⟨S, k1 + k2, _, g2.al, ⟨((k1, B1), (k2, B2)), ⟨_, _, rfl, r2, _, _, rfl, (isBk_mono _ _ _) _ _ _ (hid_ex e2) r1, rfl⟩, hs, rfl, rfl⟩, fun x d H3 e3 ha3 hd3 hdk hB => ?_⟩
  exact q x d H3 (g2.cell e3 hd3 hdk (eqC_mono .dK) rfl) hB
theorem r_partsK {q1 : Pos} (Cp : ClF X.prog X.w X.K X.mg X.base CX0 "parts" sParts 1 ["book"] (sPs C)) (hr : Room 1 X.A) (ha : PE X a (tR S σ0 H0 (isBk C k B))) (vb : VB k B)
    (hg : Gl X "parts" := by rfl) (hks : (backToKw pos (keywordEach [⟨some "book", a, q1⟩] X.env)).filterMap (·.1) = ([("book" : Str)] : List Str) := by rfl) (hall : (backToKw pos (keywordEach [⟨some "book", a, q1⟩] X.env)).all (·.1.isSome) = true := by rfl)
    (hpl : ((backTo pos (starEach [] X.env)).any (·.1) || (backToKw pos (keywordEach [⟨some "book", a, q1⟩] X.env)).any (·.1.isNone)) = false := by rfl) : PE X (.Call (.Name "parts" p) [] [⟨some "book", a, q1⟩] pos) (tR S σ0 H0 (isD (tvec (partsM k B)))) := by
  obtain ⟨fp, fdp, Fp, hmp, Fdp⟩ := Cp.ok
  refine PE_imp (pe_callK0 (E := fun _ => E0) (ks := ["book"]) (g := id) (gV := id) Fp hr hg hmp Fdp.kp (FunD.kwN Fdp fun _ _ _ _ _ _ ws hl => match ws, hl with | [_], _ => rfl) (fun h => h) (fun zs H Q E ⟨_, _, _, ⟨_, h, _⟩, _⟩ => h.length) (fun σ => pass0At) (pk_cons ha pk_nil) hall hks (by decide) hpl) fun σ H Q ⟨es, ex, al, kk⟩ => ⟨es, ex, al, fun x1 H1 e1 r1 => ?_⟩
  unfold tNil
  exact ⟨S, isD (tvec (partsM k B)), al.ex e1, ⟨(k, B), ⟨_, _, rfl, r1, rfl⟩, vb, fun _ _ h => h⟩, fun v H' e r => kk v H' (e1.trans e) r⟩
theorem se_draw {a1 a2 : Expr} {ns : List Int} (Cd : Cl X.prog X.w X.K X.mg X.base "_law_draw" 1 ["_law_script", "_law_salt"] (spDr X.K)) (hr : Room 1 X.A) (g : Sg S Bs Γ M σ H) (ha : PE X a1 (tR S σ H (isScr X.K ns))) (hb : PE X a2 (tR S σ H (isD (.int 34))))
    (q : ∀ dl il H2, dl ∉ S → Sg (dl :: il :: S) Bs Γ (dM dl il ++ M) σ H2 → Q (.ref dl) H2) (hg : Gl X "_law_draw" := by rfl) (he : starEach [a1, a2] X.env = (false, eval a1 X.env) :: starEach [a2] X.env := by rfl) (he2 : starEach [a2] X.env = (false, eval a2 X.env) :: starEach [] X.env := by rfl) (hpl : (backTo pos (starEach [a2] X.env)).any (·.1) = false := by rfl) : SE X (.Call (.Name "_law_draw" p) [a1, a2] [] pos) σ H Q := by
  obtain ⟨f, fd, F, hm, hk, hbi⟩ := Cd.ok
  refine se_of (pe_call F hr hg hm hk hbi .nil pass0 (ra_cons (isScr_mono _ _) ha (ra_D hb ra_nil he2) he) (by decide) he hpl) ⟨rfl, Ex.refl _, g.al, fun vs H1 e1 ra => ?_⟩
  show spDr X.K (vs ++ []) H1 Q E0
  rw [List.append_nil]
  have g1 := g.next e1
  refine ⟨S, ns, g1.al, ra, fun dl il b ms H2 e2 h1 h2 h3 h4 h5 h6 h7 h8 => q dl il H2 (g1.al.out h1) ?_⟩
  exact g1.cell2 e2 h1 h2 h3 h4 h5 (outC_mono il) inC_mono ⟨b, h6, rfl⟩ ⟨ms, h7, h8, rfl⟩
/-- x, y = a, b by way of a tuple (a name of them is a cell variable) -/
theorem sx_tup2 {i j : Nat} {x y : Str} {px py pt pt2 : Pos} {kt k2 : Nat} (hc : X.calm = true) (h : SE X a σ H fun v H1 => SE X b σ H1 fun w H2 => ∀ H3, Ex H2 H3 → SW X D rest ((σ.set i (some v)).set j (some w)) H3) (hx : PG X (.Name x px) (gName i)) (hy : PG X (.Name y py) (gName j))
    (hs : swapsWithSole [.Tuple [.Name x px, .Name y py] kt pt] (.Tuple [a, b] k2 pt2) pos.line X.env = pure false := by rfl) (hw : swappedStores [.Tuple [.Name x px, .Name y py] kt pt] (.Tuple [a, b] k2 pt2) X.env = pure none := by rfl) (hq : (assignEach [.Tuple [.Name x px, .Name y py] kt pt] X.env).map (·.2) = [assign (.Tuple [.Name x px, .Name y py] kt pt) X.env] := by rfl)
    (h1 : starEach [a, b] X.env = (false, eval a X.env) :: starEach [b] X.env := by rfl) (h2 : starEach [b] X.env = (false, eval b X.env) :: starEach [] X.env := by rfl) : SW X D (.Assign [.Tuple [.Name x px, .Name y py] kt pt] (.Tuple [a, b] k2 pt2) pos :: rest) σ H :=
  sw_cons (ps_asg (pe_tup (pa_cons pe_SE (pa_cons pe_SE pa_nil h2) h1)) (pg_tup (n := 2) hc (pgs_cons hx (pgs_cons hy pgs_nil)) rfl rfl) hs hw hq) (SE_mono h fun v H1 q => SE_mono q fun w H2 k => ⟨sz (show 2 ≤ 100000 by decide), fun p hp => ⟨p, [v, w], rfl, SqT.of upd_same, rfl, v, [w], rfl, w, [], rfl, rfl, k _ (Ex.new hp)⟩⟩)
end
end N34

set_option Elab.async false
set_option linter.all false
set_option maxRecDepth 100000
set_option maxHeartbeats 4000000
/-! the law: what it calls, its context -/
namespace N34
open PySem PySem.Spec PyProof.Rows L2
local macro_rules | `(tactic| walk_at "sz") => `(tactic| first | omega | (simp only [List.length_zip, List.length_map, List.length_range, List.length_zipIdx]; omega) | exact ⟨by omega, by omega⟩)
local macro_rules | `(tactic| walk_at "leg") => `(tactic| repeat (first | exact LeG.nil | apply LeG.keep | apply LeG.drop))
local macro_rules | `(tactic| walk_at "sd") => `(tactic| first | trivial | assumption | omega)
theorem eqv_bl2 (a b : Bool) : PyData.eqv (.list [.bool a, .bool b]) (.list [.bool true, .bool true]) = (a && b) := by cases a <;> cases b <;> decide +kernel
theorem len_nil {α β : Type} [DecidableEq α] (f : α → β) (l : List α) : decide ((l.map f).length = 0) = decide (l = []) := by cases l <;> simp
section
variable {P : Program} {w : World} {K : PySem.W.Frag} {mg : Str → Option Value} {base : Heap} {C Rf feq : Addr}
def spLaw (K : PySem.W.Frag) : Sp := fun vs H Q _ => ∃ S ns, Al S H ∧ AllR [isScr K ns] vs (hid S H) ∧ ∀ H', Q (.bl true) H'
/-- what law calls -/
structure LawF (P : Program) (w : World) (K : PySem.W.Frag) (mg : Str → Option Value) (base : Heap) (C Rf feq : Addr) : Prop where
  B : Bl mg
  T : BkF K C
  E : EqF K mg C feq
  EF : ∃ fd, FnOk P w K mg base CX0 1 feq fd ["self", "other"] (sEq C) ∧ Binds K fd ["self", "other"] []
  M : MkB P w K mg base C
  draw : Cl P w K mg base "_law_draw" 1 ["_law_script", "_law_salt"] (spDr K)
  any : Cl P w K mg base "_law_any" 1 ["_law_deal", "_law_bound"] sAny
  off : Cl P w K mg base "_law_of" 2 ["_law_deal", "_law_some"] sOf
  mixed : Cl P w K mg base "_law_mixed" 2 ["_law_deal", "_law_some"] sMixed
  book : Cl P w K mg base "_law_book" 7 ["_law_deal", "_law_most"] sBook
  crowds : Cl P w K mg base "_law_crowds" 5 ["_law_kinds", "_law_size"] (sCr 4)
  beside : ClF P w K mg base CX0 "beside" sBeside 6 ["one", "other"] (sBs C)
  wrong : Cl P w K mg base "_law_wrong_sums" 23 ["_law_kinds", "_law_batches"] sLws
  safe : Cl P w K mg base "is_safe" 27 ["book"] (sAl C sfRes)
  lots : Cl P w K mg base "_law_lots" 1 ["_law_kinds", "_law_batches"] sLl
  parts : ClF P w K mg base CX0 "parts" sParts 1 ["book"] (sPs C)
  part : ClF P w K mg base (L2.CX P w) "part" sPart 7 ["book", "kinds"] (spPt C Rf)
  lpart : Cl P w K mg base "_law_part" 1 ["_law_batches", "_law_lot"] sLpt
  ends : ClG P w K mg base "_law_ends_right" 5 ["_law_book_here", "_law_kinds", "_law_batches", "_law_lots_here", "_law_crowd"] (sEr C)
  refused : Cl P w K mg base "_law_refused" 8 ["_law_book_here", "_law_kinds"] (sRfd C)
abbrev NL : List Str := ["_law_script", "_law_deal", "_law_one", "_law_other", "_law_first", "_law_second", "_law_batch", "_law_kinds", "_law_rows", "_law_whole", "_law_sure", "_law_order", "_law_batches", "_law_kind", "_law_book_here", "_law_lots_here", "_law_safe", "_law_lot", "_law_told", "_law_crowd", "_law_bad"]
abbrev cxL (P : Program) (w : World) (K : PySem.W.Frag) (mg : Str → Option Value) (base : Heap) (f : Addr) (cdv : Value) (A : Around) (outer : List Env) (s : Shared) (H : Hp) (E : XK) : Cx := (cxOf CX0 P w K mg base NL "law" (defScope sLaw) f cdv A outer s H E).nox
-- def law _law_script:S
theorem scLaw : FnScope ["_law_script", "_law_deal", "_law_one", "_law_other", "_law_first", "_law_second", "_law_batch", "_law_kinds", "_law_rows", "_law_whole", "_law_sure", "_law_order", "_law_batches", "_law_kind", "_law_book_here", "_law_lots_here", "_law_safe", "_law_lot", "_law_told", "_law_crowd", "_law_bad"] ["_law_script"] (defScope sLaw) := ⟨rfl, rfl, rfl, by decide +kernel, rfl, by decide +kernel, by decide +kernel⟩
/-- what the first part leaves -/
abbrev gaL (ns : List Int) (dl : Addr) (k1 k2 : Nat) (f1 f2 : List (List Int)) (s1 s2 : Bool) (t : Ga) : Ga := [some (isScr K ns), some (isR dl), none, none, none, none, none, some (isD (.int ((k1 + k2 : Nat)))), some (isD (lvec (besideM ((k1, f1), (k2, f2))))), none, some (isD (.list [.bool s1, .bool s2]))] ++ t
abbrev gaM (K : PySem.W.Frag) (C : Addr) (ns : List Int) (dl : Addr) (k : Nat) (s1 s2 : Bool) (Bt : List (List Int)) (db : Addr) (t : Ga) : Ga := [some (isScr K ns), some (isR dl), none, none, none, none, none, some (isD (.int k)), none, none, some (isD (.list [.bool s1, .bool s2])), none, some (isD (lvec Bt)), none, some (isB C k (vsort Bt) db), some (isD (lvec (lotsM k Bt)))] ++ t
end
end N34

set_option Elab.async false
set_option linter.all false
set_option maxRecDepth 100000
set_option maxHeartbeats 4000000
/-! the law: the runs, what is no lot -/
namespace N34
open PySem PySem.Spec PyProof.Rows L2
local macro_rules | `(tactic| walk_at "sz") => `(tactic| first | omega | (simp only [List.length_zip, List.length_map, List.length_range, List.length_zipIdx]; omega) | exact ⟨by omega, by omega⟩)
local macro_rules | `(tactic| walk_at "leg") => `(tactic| repeat (first | exact LeG.nil | apply LeG.keep | apply LeG.drop))
local macro_rules | `(tactic| walk_at "sd") => `(tactic| first | trivial | assumption | omega)
section
variable {P : Program} {w : World} {K : PySem.W.Frag} {mg : Str → Option Value} {base : Heap} {C Rf feq : Addr}




theorem et_orFE {X : Cx} {S : List Addr} {Bs : List Hp} {Γ : Ga} {M M' : Ce} {a b : Expr} {pos : Pos} {y : Bool} (ha : PT X a (tGT S Bs Γ M M' false)) (hb : ∀ σ H, Sg S Bs Γ M' σ H → PT X b (tRT S σ H y)) : PT X (.BoolOp .Or [a, b] pos) (tGT S Bs Γ M M' y) :=
  PT_imp (pw_or ha (pw_or1 (et_of hb))).pt fun σ H Q ⟨g, k⟩ => ⟨g, fun H1 g1 e1 => iteF <| ⟨g1, fun H2 g2 e2 => k H2 g2 (e1.trans e2)⟩⟩
theorem law_p4 (L : LawF P w K mg base C Rf feq) {f : Addr} {cdv : Value} {A : Around} {outer : List Env} {s : Shared} {H0 H : Hp} {E : XK} {D : Ends} {S : List Addr} {dl il dw db : Addr} {σ : L2.St} {Bs : List Hp} {k : Nat} {Bt : List (List Int)} {s1 s2 : Bool} {ns : List Int} (hgu : A.guards = some []) (hr : Room 27 (A.deeper (envOfC "law" (defScope sLaw) s.heap.objs.size f cdv))) (vbB : VB k Bt) (k4 : k ≤ 4) (hsc : safeM k (vsort Bt) = (s1 && s2))
    {bs : List Bool} (hall : bs.all id = (s1 && s2)) (g : Sg (db :: dw :: dl :: il :: S) Bs (gaM K C ns dl k s1 s2 Bt db [some (isD (.list (bs.map .bool))), none, none, none, none]) ((db, eqC (.dK [])) :: (dw, anyK) :: dM dl il) σ H) (q : ∀ H', D.rt (.bl true) H') : SW (cxL P w K mg base f cdv A outer s H0 E) D ((defBody sLaw).drop 15) σ H := by
  have B := L.B
  obtain ⟨hlots, hlsum⟩ := lots_ok vbB
  obtain ⟨hlne, hlle, hb1, hb2, hb3, hb4, hb5⟩ := bad_ok vbB
  have hkp := vbB.pos
  refine gs_ifG (x := false) (M' := (db, anyK) :: (dw, anyK) :: dM dl il) g (et_orFE (PT_tGT_eq (et_neS (e_reprB (x := s1 && s2) B.repr (e_wk (e_callE (M1 := [(db, eqC (.dK []))]) (M1' := [(db, anyK)]) (M2 := (dw, anyK) :: dM dl il) (Rz := isD (.bool (safeM k (vsort Bt)))) L.safe (hr.mono (by omega)) (ea_of fun _ _ gg => ra_cons (isB_mono _ _ _ _) (g_v gg (pv 14) rfl) ra_nil) (fun vs F h => ⟨_, _, db, h, vbB.vs, rfl, rfl, fun _ _ h => h⟩) rfl) fun v F r => by rw [← hsc]; exact r)) (e_of fun _ _ gg => r_reprB B.repr (r_eq (d' := .bool (s1 && s2)) (r_all rfl B.all (g_v gg (pv 16) rfl)) (by rw [hall])))) (by rw [decide_eq_true rfl]; rfl))
    (fun _ _ gg => t_eq (t_neD (d1 := .bool (s1 && s2)) (d2 := .bool (s1 && s2)) (hu4 hr) (r_eq (r_all rfl B.all (g_v gg (pv 16) rfl)) (by rw [hall])) (r_eq (r_eqD (hu4 hr) (g_v gg (pv 10) rfl) (r_lst (ds := [.bool true, .bool true]) (ra_D r_bl (ra_D r_bl ra_nil))) (by cases s1 <;> cases s2 <;> decide +kernel) (by decide +kernel)) (by rw [eqv_bl2])) rfl rfl) (by cases s1 <;> cases s2 <;> decide +kernel))) (fun h => nomatch h) fun _ H1 g1 => sw_nil ?_
  refine gs_setX (i := 19) g1 scLaw.nd (P := fun x : List Int => CrOk k x ∧ x.sum ≤ 7) (F := vec) (e_perm (e_callE (M1 := dM dl il) (M1' := dM dl il) (M2 := [(db, anyK), (dw, anyK)]) L.off (hr.mono (by omega)) (ea_cons (isR_mono dl) (e_of fun _ _ gg => g_v gg (pv 1) rfl) (ea_cons (exR_mono (fun t : Int => 0 ≤ t ∧ t < 8) (fun t => lvec (crowdsM k t))) (e_call L.crowds (hr.mono (by omega)) (ea_cons (isD_mono _) (e_of fun _ _ gg => g_v gg (pv 7) rfl) (ea_cons (exR_mono (fun t : Int => 0 ≤ t ∧ t < 8) _) (e_any L.any (hr.mono (by omega)) (M2 := [(db, anyK), (dw, anyK)]) (bd := 8) ⟨by decide, by decide⟩ (.refl _) (fun _ _ gg => g_v gg (pv 1) rfl) (fun _ _ gg => r_int)) ea_nil)) (fun vs F h => ?_)) ea_nil)) (fun vs F h => ?_) rfl) (List.perm_append_comm (l₁ := [_, _])) (List.perm_append_comm (l₂ := [_, _]))) fun x ⟨hx1, hx2⟩ σ2 H2 g2 => ?_
  · obtain ⟨v1, w1, rfl, r1, h⟩ := h
    obtain ⟨v2, w2, rfl, ⟨t, ⟨ht1, ht2⟩, r2⟩, h⟩ := h
    exact ⟨((k : Int), t), ⟨v1, _, rfl, r1, v2, _, rfl, r2, h⟩, ⟨show (1 : Int) ≤ (k : Int) by omega, show (k : Int) ≤ (4 : Nat) by omega, show (k : Int) ≤ 4 by omega, show (0 : Int) ≤ t by omega, show t ≤ 8 by omega⟩, fun v F' r => ⟨t, ⟨ht1, ht2⟩, r⟩⟩
  · obtain ⟨v1, w1, rfl, r1, h⟩ := h
    obtain ⟨v2, w2, rfl, ⟨t, ⟨ht1, ht2⟩, r2⟩, h⟩ := h
    obtain ⟨k', rfl⟩ : ∃ k', k = k' + 1 := ⟨k - 1, by omega⟩
    have hcl := crowds_len k' t (by omega) (by omega)
    have hcp := crowds_some k' t (by omega)
    have h9 : 9 ^ k' ≤ 9 ^ 3 := Nat.pow_le_pow_right (by decide) (by omega)
    refine ⟨dl, il, (crowdsM (k' + 1) t).map vec, ⟨v1, _, rfl, r1, v2, _, rfl, r2, h⟩, ⟨by rw [List.length_map]; exact hcp, by rw [List.length_map]; omega⟩, rfl, rfl, fun d hd v F' r => ?_⟩
    obtain ⟨b, hb, rfl⟩ := List.mem_map.mp hd
    obtain ⟨z1, z2, z3⟩ := (crowds_mem k' t (by omega) b).mp hb
    exact ⟨b, ⟨⟨z1, z2⟩, by omega⟩, r⟩
  have hEnd := ends_law vbB hx1 (by omega)
  refine gs_if1 g2 (x := false) (t_not (x := true) (t_val (PE_imp (pe_callG L.ends hgu (hr.mono (by omega)) (ra_cons (isBk_mono C k (vsort Bt)) (PE_wk (g_v g2 (pv 14) rfl) fun v F h => ⟨db, h⟩) (ra_D (g_v g2 (pv 7) rfl) (ra_D (g_v g2 (pv 12) rfl) (ra_D (g_v g2 (pv 15) rfl) (ra_D (g_v g2 (pv 19) rfl) ra_nil)))))) fun σ' H' Q ⟨es, ex, al, kk⟩ => ⟨es, ex, al, fun vs H1 e1 ra => ⟨_, isD (.bool true), al.ex e1, ⟨k, vsort Bt, Bt, x, ra, vbB, vbB.vs, hx1, by omega, hEnd, fun _ _ h => h⟩, fun v H' e r => kk v H' (e1.trans e) r⟩⟩))) (fun h => nomatch h) fun _ H3 g3 => ?_
  obtain ⟨l0, hl0⟩ : ∃ l0, (lotsM k Bt)[0]? = some l0 := by
    cases h : lotsM k Bt with
    | nil => exact absurd h hlne
    | cons a l => exact ⟨a, rfl⟩
  have hl0m : l0 ∈ lotsM k Bt := List.mem_of_getElem? hl0
  have hl0l := (hlots l0 hl0m).le
  have hix0 : atI ((lotsM k Bt).map vec) 0 = some (vec l0) := by
    have h0 : 0 < (lotsM k Bt).length := List.length_pos_iff.mpr hlne
    unfold atI
    rw [List.length_map, ixN_rg (by decide) (by omega)]
    show ((lotsM k Bt).map vec)[0]? = _
    rw [List.getElem?_map, hl0]; rfl
  have badL : ∀ dv ∈ ([.none, vec [], vec [(k : Int)], lint l0, vec (l0 ++ [0]), .str "0", vec [-1]] ++ (if 1 < (lotsM k Bt).length then [vec (rangeL k)] else []) : List PyData), NoLot k (vsort Bt) dv := by
    intro dv hdv
    rcases List.mem_append.mp hdv with h | h
    · simp only [List.mem_cons, List.not_mem_nil, or_false] at h
      rcases h with rfl | rfl | rfl | rfl | rfl | rfl | rfl
      · exact .non
      · exact hb1
      · exact hb2
      · exact .lst l0
      · exact hb4 l0 hl0m
      · exact .str _
      · exact hb3
    · split at h
      · rename_i hc
        rw [List.mem_singleton.mp h]; exact hb5 hc
      · cases h

  refine gs_set g3 (i := 20) scLaw.nd (R := isD (.list ([.none, vec [], vec [(k : Int)], lint l0, vec (l0 ++ [0]), .str "0", vec [-1]] ++ (if 1 < (lotsM k Bt).length then [vec (rangeL k)] else [])))) (r_catL (r_lst (ds := [.none, vec [], vec [(k : Int)], lint l0, vec (l0 ++ [0]), .str "0", vec [-1]]) (ra_D r_non (ra_D (r_tupI (x := []) ra_nil) (ra_D (r_tupI (x := [(k : Int)]) (ra_I (g_v g3 (pv 7) rfl) ra_nilI)) (ra_D (r_listT B.list (r_ixL (g_v g3 (pv 15) rfl) r_int hix0)) (ra_D (r_catV (r_ixL (g_v g3 (pv 15) rfl) r_int hix0) (r_tupI (x := [0]) (ra_I r_int ra_nilI)) (by simp; omega)) (ra_D r_str (ra_D (r_tupI (x := [-1]) (ra_I (r_neg r_int) ra_nilI)) ra_nil)))))))) (r_if (x := decide (1 < (lotsM k Bt).length)) (t_eq (t_gt (r_lenL B.len (g_v g3 (pv 15) rfl)) r_int) (by rw [List.length_map]; exact decide_eq_decide.mpr (by omega))) (fun h => ?_) (fun h => ?_)) (by simp; split <;> simp)) (isD_mono _) fun σ4 H4 g4 => ?_
  · rw [if_pos (of_decide_eq_true h)]
    exact r_lst (ds := [vec (rangeL k)]) (ra_D (r_eq (d' := vec (rangeL k)) (r_tupleL B.tuple (r_listRg rfl B.list B.range (g_v g3 (pv 7) rfl) ⟨by omega, by omega⟩)) (by simp)) ra_nil)
  · rw [if_neg (of_decide_eq_false h)]
    exact r_lst (ds := []) ra_nil
  generalize hbd : ([.none, vec [], vec [(k : Int)], lint l0, vec (l0 ++ [0]), .str "0", vec [-1]] ++ (if 1 < (lotsM k Bt).length then [vec (rangeL k)] else []) : List PyData) = bad at g4 badL
  have hbl : 1 ≤ bad.length ∧ bad.length < 2 ^ 20 := by
    rw [← hbd]; simp; split <;> simp
  obtain ⟨Lp, ll, hle⟩ : ∃ Lp ll, lotsM k Bt = Lp ++ [ll] := by
    rcases List.eq_nil_or_concat (lotsM k Bt) with h | ⟨Lp, ll, h⟩
    · exact absurd h hlne
    · exact ⟨Lp, ll, by rw [h, List.concat_eq_append]⟩
  have hllm : ll ∈ lotsM k Bt := by rw [hle]; simp
  have hixl : atI ((lotsM k Bt).map vec) (-1) = some (vec ll) := by rw [hle, List.map_append]; exact L2.atI_last _ _
  refine gs_retG g4 (e_andT (e_cmp (Rz := isD (.bool true)) op_eq (e_call (Rz := isD (.int 0)) L.refused (hr.mono (by omega)) (ea_cons (isBk_mono C k (vsort Bt)) (e_of fun _ _ gg => PE_wk (g_v gg (pv 14) rfl) fun v F h => ⟨db, h⟩) (ea_cons (exR_mono (NoLot k (vsort Bt)) id) (e_of2 L.off (hr.mono (by omega)) (M2 := [(db, anyK), (dw, anyK)]) (ds := bad) hbl (List.perm_append_comm (l₁ := [_, _])) (fun _ _ gg => g_v gg (pv 1) rfl) (fun _ _ gg => g_v gg (pv 20) rfl) badL) ea_nil)) (fun vs F h => ?_)) (e_of fun _ _ _ => r_int) (isD_mono _) (fun x y H _ hx hy Q kk => ?_) (nomark _)) (e_of fun _ _ gg => r_isN (d := .none) (r_call L.refused (hr.mono (by omega)) (ra_cons (isBk_mono C k (vsort Bt)) (PE_wk (g_v gg (pv 14) rfl) fun v F h => ⟨db, h⟩) (ra_D (r_ixL (g_v gg (pv 15) rfl) (r_neg r_int) hixl) ra_nil)) (fun vs F h => ⟨k, vsort Bt, vec ll, h, vbB.vs, .inl ⟨ll, rfl, by rw [parts_lots vbB]; exact hllm, (chosen_vs vbB hllm).2, fun _ _ h => h⟩⟩)))) fun v H' g' r => ?_
  · obtain ⟨v1, w1, rfl, r1, v2, w2, rfl, ⟨d, hd, r2⟩, h⟩ := h
    exact ⟨k, vsort Bt, d, ⟨v1, _, rfl, r1, v2, _, rfl, r2, h⟩, vbB.vs, .inr ⟨hd, fun _ _ h => h⟩⟩
  · have e1 := hx.intI
    have e2 := hy.intI
    subst e1 e2
    exact ⟨rfl, kk _ H (Ex.refl _) (by rw [decide_eq_true rfl]; exact .bl true)⟩
  · rw [r.blI]; exact q H'
end
end N34

set_option Elab.async false
set_option linter.all false
set_option maxRecDepth 100000
set_option maxHeartbeats 4000000
/-! the law: lot by lot -/
namespace N34
open PySem PySem.Spec PyProof.Rows L2
local macro_rules | `(tactic| walk_at "sz") => `(tactic| first | omega | (simp only [List.length_zip, List.length_map, List.length_range, List.length_zipIdx]; omega) | exact ⟨by omega, by omega⟩)
local macro_rules | `(tactic| walk_at "leg") => `(tactic| repeat (first | exact LeG.nil | apply LeG.keep | apply LeG.drop))
local macro_rules | `(tactic| walk_at "sd") => `(tactic| first | trivial | assumption | omega)
section
variable {P : Program} {w : World} {K : PySem.W.Frag} {mg : Str → Option Value} {base : Heap} {C Rf feq : Addr}




theorem law_p3 (L : LawF P w K mg base C Rf feq) {f : Addr} {cdv : Value} {A : Around} {outer : List Env} {s : Shared} {H0 H : Hp} {E : XK} {D : Ends} {S : List Addr} {dl il dw db : Addr} {σ : L2.St} {Bs : List Hp} {k : Nat} {Bt : List (List Int)} {s1 s2 : Bool} {ns : List Int} (hgu : A.guards = some []) (hr : Room 27 (A.deeper (envOfC "law" (defScope sLaw) s.heap.objs.size f cdv))) (vbB : VB k Bt) (k4 : k ≤ 4) (hsc : safeM k (vsort Bt) = (s1 && s2))
    (g : Sg (db :: dw :: dl :: il :: S) Bs (gaM K C ns dl k s1 s2 Bt db [none, none, none, none, none]) ((db, eqC (.dK [])) :: (dw, anyK) :: dM dl il) σ H) (q : ∀ H', D.rt (.bl true) H') : SW (cxL P w K mg base f cdv A outer s H0 E) D ((defBody sLaw).drop 13) σ H := by
  have B := L.B
  have c__law_wrong_sums := L.wrong
  have c__law_part := L.lpart
  obtain ⟨hlots, hlsum⟩ := lots_ok vbB
  obtain ⟨hlne, hlle, _⟩ := bad_ok vbB
  have hBl := vbB.few
  have hBn := vbB.len
  refine gs_newL (i := 16) (ds := []) g scLaw.nd ra_nil fun sf σ1 H1 hsf g1 => ?_
  refine gs_for g1 PassesOwn.never rfl (w_list (g_v g1 (pv 15) rfl)) (pg_name (i := 17) scLaw.nd rfl (by first | exact Or.inl rfl | exact Or.inr rfl)) (fun pre => gaM K C ns dl k s1 s2 Bt db [some (isR sf), none, none, none, none]) (fun pre => (sf, lisC ((pre.map fun lot => sureM lot.length (chosenM Bt lot)).map .bool)) :: (db, eqC (.dK [])) :: (dw, anyK) :: dM dl il) (fun H' g' => g'.le (by walk_at "leg")) (fun B1 pre lot post hpl σ2 H2 v2 g2 hv2 => ?_) (fun σ2 H2 g2 => ?_)
  · have hlm : lot ∈ lotsM k Bt := by rw [hpl]; simp
    have hpre : pre.length < (lotsM k Bt).length := by rw [hpl]; simp <;> omega
    have hlot := hlots lot hlm
    have hll := hlot.le
    obtain ⟨hcv, hcvb⟩ := chosen_vs vbB hlm
    have hsw := safe_wrong hlot.vb
    refine gst_name g2 rfl (isD_mono _) hv2 fun σ3 g3 => ?_

    refine sx_set scLaw.nd (i := 18) (se_part L.part (hr.mono (by omega)) g3 (g_v g3 (pv 17) rfl) (fun _ gg => PE_wk (g_v gg (pv 14) rfl) fun v F h => ⟨db, h⟩) vbB.vs (by rw [parts_lots vbB]; exact hlm) hcvb fun x d H4 g4 hB => ?_)
    rw [hcv] at hB
    have g5 := g4.set (i := 18) (blt rfl) (isB_mono _ _ _ _) hB

    refine gs_if1 g5 (t_eq (b' := false) (t_neB L.T L.E (hr.mono (by omega)) L.EF (PE_wk (g_v g5 (pv 18) rfl) fun v F h => ⟨d, h⟩) (r_book L.M (hr.mono (by omega)) (ra_D (r_eq (d' := .int (lot.length : Nat)) (r_lenT B.len (g_v g5 (pv 17) rfl)) (by rw [List.length_map])) (ra_D (r_callD c__law_part (hr.mono (by omega)) (p := (_, _)) rfl (ra_D (g_v g5 (pv 12) rfl) (ra_D (g_v g5 (pv 17) rfl) ra_nil)) (by exact ⟨fun b hb i hi => by have := hlot.rg i hi; have := hBn b hb; exact ⟨by omega, by omega⟩, by dsimp only; omega, by dsimp only; omega⟩)) ra_nil)) hlot.vb)) (by simp)) (fun h => nomatch h) fun _ H6 g6 => ?_
    refine gs_exprG g6 (e_app (j := 1) (d := .bool (sureM lot.length (chosenM Bt lot))) (e_of fun _ _ gg => g_v gg (pv 16) rfl) rfl (e_of fun _ _ gg => r_eq (r_eqNil (hu4 hr) (r_callD c__law_wrong_sums (hr.mono (by omega)) (p := (lot.length, chosenM Bt lot)) rfl (ra_D (r_eq (d' := .int (lot.length : Nat)) (r_lenT B.len (g_v gg (pv 17) rfl)) (by rw [List.length_map])) (ra_D (r_callD c__law_part (hr.mono (by omega)) (p := (_, _)) rfl (ra_D (g_v gg (pv 12) rfl) (ra_D (g_v gg (pv 17) rfl) ra_nil)) (by exact ⟨fun b hb i hi => by have := hlot.rg i hi; have := hBn b hb; exact ⟨by omega, by omega⟩, by dsimp only; omega, by dsimp only; omega⟩)) ra_nil)) hlot.vb) (shp_lvec _)) (by rw [len_nil])) rfl (by simp only [List.length_map]; omega)) fun H7 g7 => ?_

    refine gs_ifG (x := false) (M' := (d, anyK) :: (sf, lisC ((pre.map fun lot => sureM lot.length (chosenM Bt lot)).map .bool ++ [.bool (sureM lot.length (chosenM Bt lot))])) :: (db, eqC (.dK [])) :: (dw, anyK) :: dM dl il) g7 (PT_tGT_eq (et_neS (e_reprB (x := sureM lot.length (chosenM Bt lot)) B.repr (e_wk (e_callE (M1 := [(d, eqC (.dK []))]) (M1' := [(d, anyK)]) (M2 := (sf, lisC ((pre.map fun lot => sureM lot.length (chosenM Bt lot)).map .bool ++ [.bool (sureM lot.length (chosenM Bt lot))])) :: (db, eqC (.dK [])) :: (dw, anyK) :: dM dl il) (Rz := isD (.bool (safeM lot.length (vsort (chosenM Bt lot))))) L.safe (hr.mono (by omega)) (ea_of fun _ _ gg => ra_cons (isB_mono _ _ _ _) (g_v gg (pv 18) rfl) ra_nil) (fun vs F h => ⟨_, _, d, h, hlot.vb.vs, rfl, rfl, fun _ _ h => h⟩) rfl) fun v F r => by rw [← hsw]; exact r)) (e_of fun _ _ gg => r_reprB B.repr (g_ixC gg (j := 1) rfl (g_v gg (pv 16) rfl) (r_neg r_int) (L2.atI_last _ _)))) (by rw [decide_eq_true rfl]; rfl)) (fun h => nomatch h) fun _ H8 g8 => sw_nil (sw_nil ?_)
    rw [List.map_append, List.map_append]
    exact ((g8.drop 0).wk (S := sf :: db :: dw :: dl :: il :: S) (fun b hb => List.mem_cons_of_mem _ hb) (fun _ h => h) (LeG.refl _) (fun p hp => ⟨hp, by
      simp only [List.eraseIdx, List.mem_cons, List.not_mem_nil, or_false] at hp
      rcases hp with rfl | rfl | rfl | rfl | rfl <;> simp⟩) (g8.drop 0).nd).le (by walk_at "leg")
  · have g3 := g2.freeze (S := db :: dw :: dl :: il :: S) (i := 16) (j := 0) (fun b hb => List.mem_cons_of_mem _ hb) hsf rfl rfl (fun p hp => by
      simp only [List.eraseIdx, List.mem_cons, List.not_mem_nil, or_false] at hp
      rcases hp with rfl | rfl | rfl | rfl <;> simp)
    have hall := safe_lots vbB
    rw [hsc] at hall
    exact law_p4 L hgu hr vbB k4 hsc hall.symm (g3.le (by walk_at "leg")) q
end
end N34

set_option Elab.async false
set_option linter.all false
set_option maxRecDepth 100000
set_option maxHeartbeats 4000000
/-! the law: the book in another order, its lots -/
namespace N34
open PySem PySem.Spec PyProof.Rows L2
local macro_rules | `(tactic| walk_at "sz") => `(tactic| first | omega | (simp only [List.length_zip, List.length_map, List.length_range, List.length_zipIdx]; omega) | exact ⟨by omega, by omega⟩)
local macro_rules | `(tactic| walk_at "leg") => `(tactic| repeat (first | exact LeG.nil | apply LeG.keep | apply LeG.drop))
local macro_rules | `(tactic| walk_at "sd") => `(tactic| first | trivial | assumption | omega)
section
variable {P : Program} {w : World} {K : PySem.W.Frag} {mg : Str → Option Value} {base : Heap} {C Rf feq : Addr}




theorem law_p2 (L : LawF P w K mg base C Rf feq) {f : Addr} {cdv : Value} {A : Around} {outer : List Env} {s : Shared} {H0 H : Hp} {E : XK} {D : Ends} {S : List Addr} {dl il dw : Addr} {σ : L2.St} {Bs : List Hp} {k1 k2 : Nat} {f1 f2 : List (List Int)} {s1 s2 : Bool} {ns : List Int} (hgu : A.guards = some []) (hr : Room 27 (A.deeper (envOfC "law" (defScope sLaw) s.heap.objs.size f cdv))) (two : TwoB k1 k2 f1 f2) (hs12 : safeM (k1 + k2) (vsort (besideM ((k1, f1), (k2, f2)))) = (s1 && s2))
    (g14 : Sg (dw :: dl :: il :: S) Bs (gaL (K := K) ns dl k1 k2 f1 f2 s1 s2 [none, none, none, none, none, none, none, none, none, none]) ((dw, anyK) :: dM dl il) σ H) (q : ∀ H', D.rt (.bl true) H') : SW (cxL P w K mg base f cdv A outer s H0 E) D ((defBody sLaw).drop 9) σ H := by
  have B := L.B
  have c__law_lots := L.lots
  have hk1' := two.a1
  have hk2' := two.a2
  have vbR := vb_beside two
  have hk12 : k1 + k2 ≤ 4 := by omega
  refine gs_setX (i := 11) g14 scLaw.nd (P := fun ms : List Int => ms.Perm (rangeL (k1 + k2))) (F := lint) (e_perm (e_callE (M1 := dM dl il) (M1' := dM dl il) (M2 := [(dw, anyK)]) L.mixed (hr.mono (by omega)) (ea_of fun _ _ gg => ra_cons (isR_mono dl) (g_v gg (pv 1) rfl) (ra_D (r_listRg rfl B.list B.range (g_v gg (pv 7) rfl) ⟨by omega, by omega⟩) ra_nil)) (fun vs F h => ⟨dl, il, _, h, by simp; omega, rfl, rfl, fun ms hp v F' r => ⟨ms, by rw [Int.toNat_natCast] at hp; exact hp, r⟩⟩) rfl) (List.perm_append_comm (l₁ := [_])) (List.perm_append_comm (l₂ := [_]))) fun ord hord σ15 H15 g15 => ?_
  have hol : ord.length = k1 + k2 := by rw [hord.length_eq]; simp
  have horg : ∀ j ∈ ord, 0 ≤ j ∧ j < (k1 + k2 : Nat) := fun j hj => by
    obtain ⟨n, hn, rfl⟩ := List.mem_map.mp (hord.subset hj)
    have := List.mem_range.mp hn
    exact ⟨by omega, by omega⟩
  have ecut : (fun b : List Int => ord.map fun j => vAt b j) = cut ord := funext fun b => cut_def.symm
  have vbB := vb_cut vbR hord
  have hsc := safe_cut vbR hord
  rw [hs12] at hsc
  have hRl := vbR.few
  have hRn := vbR.len
  have hkp := vbR.pos



  refine gs_set g15 (i := 12) scLaw.nd (r_eq (d' := lvec (vsort ((besideM ((k1, f1), (k2, f2))).map (cut ord)))) (r_sortV B.sorted (r_lcA (own := [("_law_batch", 6)]) vec rfl scLaw.nd (w_list (g_v g15 (pv 8) rfl)) (blkOk_by (N := ["_law_script", "_law_deal", "_law_one", "_law_other", "_law_first", "_law_second", "_law_batch", "_law_kinds", "_law_rows", "_law_whole", "_law_sure", "_law_order", "_law_batches", "_law_kind", "_law_book_here", "_law_lots_here", "_law_safe", "_law_lot", "_law_told", "_law_crowd", "_law_bad"]) (sc := defScope sLaw) (by decide +kernel)) (fun _ _ _ _ _ => pg_name (i := 6) scLaw.nd rfl (by first | exact Or.inl rfl | exact Or.inr rfl)) (by first | omega | (intro c hc e; obtain ⟨b, _, rfl⟩ := List.mem_map.mp hc; have h9 := congrArg List.length e; rw [List.length_map, hol, List.length_nil] at h9; omega) | (simp only [List.length_map]; omega)) (it_name g15 (j := 6) (by decide) rfl (fun _ => isD_mono _) (fun a1 ha1 _ _ _ g1 => ⟨b_nil, fun hp1 _ _ _ _ _ => (r_tupleL B.tuple (r_lcA (own := [("_law_kind", 13)]) .int rfl scLaw.nd (w_list (g_v g1 (pv 11) rfl)) (blkOk_by (by kernel_rfl)) (fun _ _ _ _ _ => pg_name (i := 13) scLaw.nd rfl (by first | exact Or.inl rfl | exact Or.inr rfl)) (by first | omega | (intro c hc e; obtain ⟨b, _, rfl⟩ := List.mem_map.mp hc; have h9 := congrArg List.length e; rw [List.length_map, hol, List.length_nil] at h9; omega) | (simp only [List.length_map]; omega)) (it_name g1 (j := 13) (by decide) rfl (fun _ => isD_mono _) (fun a2 ha2 _ _ _ g2 => ⟨b_nil, fun hp2 _ _ _ _ _ => (r_ixT (g_v g2 (pv 6) rfl) (g_v g2 (pv 13) rfl) (by exact atI_v (by have h1 := horg _ ‹_ ∈ ord›; have h2 := hRn _ ‹_ ∈ besideM _›; omega)))⟩))))⟩))) (by first | omega | (intro c hc e; obtain ⟨b, _, rfl⟩ := List.mem_map.mp hc; have h9 := congrArg List.length e; rw [List.length_map, hol, List.length_nil] at h9; omega) | (simp only [List.length_map]; omega))) (by rw [← ecut])) (isD_mono _) fun σ16 H16 g16 => ?_


  generalize vsort ((besideM ((k1, f1), (k2, f2))).map (cut ord)) = Bt at *

  refine sx_par2 (i := 14) (j := 15) rfl scLaw.nd (se_book L.M (hr.mono (by omega)) (ra_D (g_v g16 (pv 7) rfl) (ra_D (g_v g16 (pv 12) rfl) ra_nil)) vbB (Ex.refl _) g16.al fun x db H17 e17 hx hd hdk hB2 => ?_)
  have g17 := g16.cell (C := eqC (.dK [])) e17 hd hdk (eqC_mono .dK) rfl

  refine se_g g17 (r_callD c__law_lots (hr.mono (by omega)) (p := (_, _)) rfl (ra_D (g_v g17 (pv 7) rfl) (ra_D (g_v g17 (pv 12) rfl) ra_nil)) (by exact vbB)) fun v H18 g18 e18 r18 => ?_

  have g19 := (g18.set (i := 14) (blt rfl) (isB_mono _ _ _ _) ((isB_mono _ _ _ _) _ _ _ (hid_ex e18) hB2)).set (i := 15) (blt rfl) (isD_mono _) r18
  obtain ⟨hlots, hlsum⟩ := lots_ok vbB
  obtain ⟨hlne, hlle, hb1', hb2', hb3', hb4', hb5'⟩ := bad_ok vbB
  have hrp : RpOk (tvec (lotsM (k1 + k2) Bt)) := tvec_rp (fun l hl => ⟨by have := (hlots l hl).le; omega, fun i hi => by have := (hlots l hl).rg i hi; omega⟩) (by omega)
  have hpl := parts_lots vbB
  refine gs_if1 g19 (t_eq (b' := false) (t_neS (r_repr hgu (hu4 hr) B.repr (r_eq (d' := tvec (lotsM (k1 + k2) Bt)) (r_partsK L.parts (hr.mono (by omega)) (PE_wk (g_v g19 (pv 14) rfl) fun v F h => ⟨db, h⟩) vbB.vs) (by rw [hpl])) hrp) (r_repr hgu (hu4 hr) B.repr (r_tupleL B.tuple (g_v g19 (pv 15) rfl)) hrp)) (by rw [decide_eq_true rfl]; rfl)) (fun h => nomatch h) fun _ H20 g20 => ?_
  exact law_p3 L hgu hr vbB hk12 hsc (g20.le (by walk_at "leg")) q
end
end N34

set_option Elab.async false
set_option linter.all false
set_option maxRecDepth 100000
set_option maxHeartbeats 4000000
/-! the law: its first statements -/
namespace N34
open PySem PySem.Spec PyProof.Rows L2
local macro_rules | `(tactic| walk_at "sz") => `(tactic| first | omega | (simp only [List.length_zip, List.length_map, List.length_range, List.length_zipIdx]; omega) | exact ⟨by omega, by omega⟩)
local macro_rules | `(tactic| walk_at "leg") => `(tactic| repeat (first | exact LeG.nil | apply LeG.keep | apply LeG.drop))
local macro_rules | `(tactic| walk_at "sd") => `(tactic| first | trivial | assumption | omega)
section
variable {P : Program} {w : World} {K : PySem.W.Frag} {mg : Str → Option Value} {base : Heap} {C Rf feq : Addr}




theorem ok_law (L : LawF P w K mg base C Rf feq) {f : Addr} {fd : FuncData} (Fd : FunD K "law" "law" (defArgs sLaw) (defBody sLaw) (defScope sLaw) [] [] f fd) : FnG P w K mg base 28 f fd ["_law_script"] (spLaw K) := by
  have B := L.B
  have c__law_wrong_sums := L.wrong
  have c__law_lots := L.lots
  have c__law_part := L.lpart
  refine FnG.of Fd scLaw (fun vs H Q E ⟨_, _, _, h, _⟩ => h.length) (fun cdv A outer s H vs Q E hgu hr h => ?_)
  obtain ⟨S, ns, al, ha, q⟩ := h
  have g := Sg.start (Rs := [isScr K ns]) (N := NL) al (⟨isScr_mono _ _, trivial⟩ : MonoA [isScr K ns]) ha (by rw [ha.length]; exact Nat.le_of_ble_eq_true rfl)
  refine sx_set scLaw.nd (i := 1) (se_draw L.draw (hr.mono (by omega)) g (g_v g (pv 0) rfl) r_int fun dl il H1 hdl g1 => ?_)
  have g2 := g1.set (i := 1) (blt rfl) (isR_mono dl) rfl
  refine sx_tup2 (i := 2) (j := 3) rfl (se_G g2 (e_callE (M1 := dM dl il) (M1' := dM dl il) (M2 := []) (Rz := exR (fun t : Nat × List (List Int) => (1 ≤ t.1 ∧ t.1 ≤ 2) ∧ DbOk t.1 t.2) (fun t => .tuple [.int t.1, lvec t.2])) L.book (hr.mono (by omega)) (ea_of fun _ _ gg => ra_cons (isR_mono dl) (g_v gg (pv 1) rfl) (ra_D r_int ra_nil)) (fun vs F h => ⟨dl, il, h, rfl, rfl, fun k B h1 h2 h3 v F' r => ⟨(k, B), ⟨⟨h1, h2⟩, h3⟩, r⟩⟩) rfl) fun v H3 g3 e3 ⟨⟨k1, B1⟩, ⟨⟨hk1, hk1'⟩, hb1⟩, r1⟩ => se_G g3 (e_callE (M1 := dM dl il) (M1' := dM dl il) (M2 := []) (Rz := exR (fun t : Nat × List (List Int) => (1 ≤ t.1 ∧ t.1 ≤ 2) ∧ DbOk t.1 t.2) (fun t => .tuple [.int t.1, lvec t.2])) L.book (hr.mono (by omega)) (ea_of fun _ _ gg => ra_cons (isR_mono dl) (g_v gg (pv 1) rfl) (ra_D r_int ra_nil)) (fun vs F h => ⟨dl, il, h, rfl, rfl, fun k B h1 h2 h3 v F' r => ⟨(k, B), ⟨⟨h1, h2⟩, h3⟩, r⟩⟩) rfl) fun w2 H4 g4 e4 ⟨⟨k2, B2⟩, ⟨⟨hk2, hk2'⟩, hb2⟩, r2⟩ H4' e4' => ?_) (pg_name (i := 2) scLaw.nd rfl (by first | exact Or.inl rfl | exact Or.inr rfl)) (pg_name (i := 3) scLaw.nd rfl (by first | exact Or.inl rfl | exact Or.inr rfl))
  have r1' : Dt (hid (dl :: il :: S) H3) v (.tuple [.int k1, lvec B1]) := r1
  have r2' : Dt (hid (dl :: il :: S) H4) w2 (.tuple [.int k2, lvec B2]) := r2
  have r1'' := r1'.mono (e4.trans (hid_ex e4'))
  have r2'' := r2'.mono (hid_ex e4')
  have g5 := ((g4.next e4').set (i := 2) (blt rfl) (isD_mono _) r1'').set (i := 3) (blt rfl) (isD_mono _) r2''
  clear r1 r2 r1' r2' r1'' r2''
  dsimp only at hk1 hk1' hb1 hk2 hk2' hb2
  obtain ⟨vf1, lf1⟩ := vb_firstM hb1 hk1 hk1'
  obtain ⟨vf2, lf2⟩ := vb_firstM hb2 hk2 hk2'
  have fw1 := hb1.few
  have fw2 := hb2.few

  refine sx_par2 (i := 4) (j := 5) rfl scLaw.nd (se_g g5 (r_eq (d' := lvec (firstM B1)) (r_slE (n := 4) vec (r_lc (own := [("_law_batch", 6)]) vec rfl scLaw.nd (w_list (r_ixT (g_v g5 (pv 2) rfl) r_int (by exact rfl))) (blkOk_by (N := ["_law_script", "_law_deal", "_law_one", "_law_other", "_law_first", "_law_second", "_law_batch", "_law_kinds", "_law_rows", "_law_whole", "_law_sure", "_law_order", "_law_batches", "_law_kind", "_law_book_here", "_law_lots_here", "_law_safe", "_law_lot", "_law_told", "_law_crowd", "_law_bad"]) (sc := defScope sLaw) (by decide +kernel)) (fun _ _ _ _ _ => pg_name (i := 6) scLaw.nd rfl (by first | exact Or.inl rfl | exact Or.inr rfl)) (by walk_at "sz") (it_name g5 (j := 6) (by decide) rfl (fun _ => isD_mono _) (fun a1 ha1 _ _ _ g1 => ⟨b_one fun _ _ _ _ _ => (t_lt (r_sumT rfl B.sum (g_v g1 (pv 6) rfl)) r_int), fun hp1 _ _ _ _ _ => (g_v g1 (pv 6) rfl)⟩))) r_int rfl) (by rw [map_self])) fun v H6 g6 e6 r6 => se_g g6 (r_eq (d' := lvec (firstM B2)) (r_slE (n := 4) vec (r_lc (own := [("_law_batch", 6)]) vec rfl scLaw.nd (w_list (r_ixT (g_v g6 (pv 3) rfl) r_int (by exact rfl))) (blkOk_by (N := ["_law_script", "_law_deal", "_law_one", "_law_other", "_law_first", "_law_second", "_law_batch", "_law_kinds", "_law_rows", "_law_whole", "_law_sure", "_law_order", "_law_batches", "_law_kind", "_law_book_here", "_law_lots_here", "_law_safe", "_law_lot", "_law_told", "_law_crowd", "_law_bad"]) (sc := defScope sLaw) (by decide +kernel)) (fun _ _ _ _ _ => pg_name (i := 6) scLaw.nd rfl (by first | exact Or.inl rfl | exact Or.inr rfl)) (by walk_at "sz") (it_name g6 (j := 6) (by decide) rfl (fun _ => isD_mono _) (fun a2 ha2 _ _ _ g2 => ⟨b_one fun _ _ _ _ _ => (t_lt (r_sumT rfl B.sum (g_v g2 (pv 6) rfl)) r_int), fun hp2 _ _ _ _ _ => (g_v g2 (pv 6) rfl)⟩))) r_int rfl) (by rw [map_self])) fun w3 H7 g7 e7 r7 => ?_)
  have g8 := (g7.set (i := 4) (blt rfl) (isD_mono _) (r6.mono (hid_ex e7))).set (i := 5) (blt rfl) (isD_mono _) r7
  clear r6 r7
  generalize firstM B1 = f1 at *
  generalize firstM B2 = f2 at *
  have two : TwoB k1 k2 f1 f2 := ⟨vf1, vf2, hk1', hk2', lf1, lf2⟩

  refine gs_set g8 (i := 7) scLaw.nd (r_eq (d' := .int ((k1 + k2 : Nat))) (r_add (r_ixT (g_v g8 (pv 2) rfl) r_int (by exact rfl)) (r_ixT (g_v g8 (pv 3) rfl) r_int (by exact rfl))) (by simp)) (isD_mono _) fun σ9 H9 g9 => ?_
  have vbR := vb_beside two

  refine gs_set g9 (i := 8) scLaw.nd (r_eq (d' := lvec (besideM ((k1, f1), (k2, f2)))) (r_catLe vec (r_lcA (own := [("_law_batch", 6)]) vec rfl scLaw.nd (w_list (g_v g9 (pv 4) rfl)) (blkOk_by (N := ["_law_script", "_law_deal", "_law_one", "_law_other", "_law_first", "_law_second", "_law_batch", "_law_kinds", "_law_rows", "_law_whole", "_law_sure", "_law_order", "_law_batches", "_law_kind", "_law_book_here", "_law_lots_here", "_law_safe", "_law_lot", "_law_told", "_law_crowd", "_law_bad"]) (sc := defScope sLaw) (by decide +kernel)) (fun _ _ _ _ _ => pg_name (i := 6) scLaw.nd rfl (by first | exact Or.inl rfl | exact Or.inr rfl)) (by first | omega | exact ⟨by omega, by omega⟩ | (have hb1 := vf1.len _ ‹_›; simp only [List.length_replicate, Int.toNat_natCast]; omega) | (have hb1 := vf2.len _ ‹_›; simp only [List.length_replicate, Int.toNat_natCast]; omega) | (simp only [List.length_map]; omega)) (it_name g9 (j := 6) (by decide) rfl (fun _ => isD_mono _) (fun a3 ha3 _ _ _ g3 => ⟨b_nil, fun hp3 _ _ _ _ _ => (r_catV (g_v g3 (pv 6) rfl) (r_repV (r_tupI (ra_I r_int ra_nilI)) (r_ixT (g_v g3 (pv 3) rfl) r_int (by exact rfl)) (by first | omega | exact ⟨by omega, by omega⟩ | (have hb1 := vf1.len _ ‹_›; simp only [List.length_replicate, Int.toNat_natCast]; omega) | (have hb1 := vf2.len _ ‹_›; simp only [List.length_replicate, Int.toNat_natCast]; omega) | (simp only [List.length_map]; omega))) (by first | omega | exact ⟨by omega, by omega⟩ | (have hb1 := vf1.len _ ‹_›; simp only [List.length_replicate, Int.toNat_natCast]; omega) | (have hb1 := vf2.len _ ‹_›; simp only [List.length_replicate, Int.toNat_natCast]; omega) | (simp only [List.length_map]; omega)))⟩))) (r_lcA (own := [("_law_batch", 6)]) vec rfl scLaw.nd (w_list (g_v g9 (pv 5) rfl)) (blkOk_by (N := ["_law_script", "_law_deal", "_law_one", "_law_other", "_law_first", "_law_second", "_law_batch", "_law_kinds", "_law_rows", "_law_whole", "_law_sure", "_law_order", "_law_batches", "_law_kind", "_law_book_here", "_law_lots_here", "_law_safe", "_law_lot", "_law_told", "_law_crowd", "_law_bad"]) (sc := defScope sLaw) (by decide +kernel)) (fun _ _ _ _ _ => pg_name (i := 6) scLaw.nd rfl (by first | exact Or.inl rfl | exact Or.inr rfl)) (by first | omega | exact ⟨by omega, by omega⟩ | (have hb1 := vf1.len _ ‹_›; simp only [List.length_replicate, Int.toNat_natCast]; omega) | (have hb1 := vf2.len _ ‹_›; simp only [List.length_replicate, Int.toNat_natCast]; omega) | (simp only [List.length_map]; omega)) (it_name g9 (j := 6) (by decide) rfl (fun _ => isD_mono _) (fun a4 ha4 _ _ _ g4 => ⟨b_nil, fun hp4 _ _ _ _ _ => (r_catV (r_repV (r_tupI (ra_I r_int ra_nilI)) (r_ixT (g_v g4 (pv 2) rfl) r_int (by exact rfl)) (by first | omega | exact ⟨by omega, by omega⟩ | (have hb1 := vf1.len _ ‹_›; simp only [List.length_replicate, Int.toNat_natCast]; omega) | (have hb1 := vf2.len _ ‹_›; simp only [List.length_replicate, Int.toNat_natCast]; omega) | (simp only [List.length_map]; omega))) (g_v g4 (pv 6) rfl) (by first | omega | exact ⟨by omega, by omega⟩ | (have hb1 := vf1.len _ ‹_›; simp only [List.length_replicate, Int.toNat_natCast]; omega) | (have hb1 := vf2.len _ ‹_›; simp only [List.length_replicate, Int.toNat_natCast]; omega) | (simp only [List.length_map]; omega)))⟩))) (by first | omega | exact ⟨by omega, by omega⟩ | (have hb1 := vf1.len _ ‹_›; simp only [List.length_replicate, Int.toNat_natCast]; omega) | (have hb1 := vf2.len _ ‹_›; simp only [List.length_replicate, Int.toNat_natCast]; omega) | (simp only [List.length_map]; omega))) (by unfold besideM; simp only [Int.toNat_natCast, zer_def])) (isD_mono _) fun σ10 H10 g10 => ?_

  refine sx_set scLaw.nd (i := 9) (se_beside (k1 := k1) (k2 := k2) (B1 := vsort f1) (B2 := vsort f2) L.beside (hr.mono (by omega)) g10 (r_book L.M (hr.mono (by omega)) (ra_D (r_eq (d' := .int (k2 : Nat)) (r_ixT (g_v g10 (pv 3) rfl) r_int (by exact rfl)) rfl) (ra_D (g_v g10 (pv 5) rfl) ra_nil)) vf2) (fun _ gg => r_book L.M (hr.mono (by omega)) (ra_D (r_eq (d' := .int (k1 : Nat)) (r_ixT (g_v gg (pv 2) rfl) r_int (by exact rfl)) rfl) (ra_D (g_v gg (pv 4) rfl) ra_nil)) vf1) ⟨vf1.vs, vf2.vs, vb_beside ⟨vf1.vs, vf2.vs, hk1', hk2', by rw [(vsort_perm f1).length_eq]; exact lf1, by rw [(vsort_perm f2).length_eq]; exact lf2⟩⟩ fun x dw H11 gq hB => ?_)
  rw [beside_vs] at hB
  have g11 := gq.set (i := 9) (blt rfl) (isB_mono _ _ _ _) hB
  refine gs_if1 g11 (t_eq (b' := false) (t_neB L.T L.E (hr.mono (by omega)) L.EF (PE_wk (g_v g11 (pv 9) rfl) fun v F h => ⟨dw, h⟩) (r_book L.M (hr.mono (by omega)) (ra_D (g_v g11 (pv 7) rfl) (ra_D (g_v g11 (pv 8) rfl) ra_nil)) vbR)) (by simp)) (fun h => nomatch h) fun _ H12 g12 => ?_
  have hs12 := safe_beside two
  have hw1 := safe_wrong vf1
  have hw2 := safe_wrong vf2


  refine gs_set g12 (i := 10) scLaw.nd (r_eq (d' := .list [.bool (sureM k1 f1), .bool (sureM k2 f2)]) (r_lstE .bool [_, _] (ra_D (r_eqNil (hu4 hr) (r_callD c__law_wrong_sums (hr.mono (by omega)) (p := (_, _)) rfl (ra_D (r_ixT (g_v g12 (pv 2) rfl) r_int (by exact rfl)) (ra_D (g_v g12 (pv 4) rfl) ra_nil)) (by walk_at "sd")) (by exact shp_lvec _)) (ra_D (r_eqNil (hu4 hr) (r_callD c__law_wrong_sums (hr.mono (by omega)) (p := (_, _)) rfl (ra_D (r_ixT (g_v g12 (pv 3) rfl) r_int (by exact rfl)) (ra_D (g_v g12 (pv 5) rfl) ra_nil)) (by walk_at "sd")) (by exact shp_lvec _)) ra_nil))) (by simp only [len_nil, List.map_cons, List.map_nil])) (isD_mono _) fun σ13 H13 g13 => ?_

  generalize sureM k1 f1 = s1 at *
  generalize sureM k2 f2 = s2 at *
  refine gs_ifG (x := false) (M' := (dw, anyK) :: dM dl il) g13 (et_orF (fun _ _ gg => t_eq (t_neS (r_repr hgu (hu4 hr) B.repr (r_eq (d' := .list [.bool s1, .bool s2]) (r_lst (ds := [.bool (safeM k1 (vsort f1)), .bool (safeM k2 (vsort f2))]) (ra_D (r_safeNew L.M L.safe (hr.mono (by omega)) (ra_D (r_eq (d' := .int (k1 : Nat)) (r_ixT (g_v gg (pv 2) rfl) r_int (by exact rfl)) rfl) (ra_D (g_v gg (pv 4) rfl) ra_nil)) vf1 vf1.vs) (ra_D (r_safeNew L.M L.safe (hr.mono (by omega)) (ra_D (r_eq (d' := .int (k2 : Nat)) (r_ixT (g_v gg (pv 3) rfl) r_int (by exact rfl)) rfl) (ra_D (g_v gg (pv 5) rfl) ra_nil)) vf2 vf2.vs) ra_nil))) (by rw [hw1, hw2])) (bls_rp s1 s2)) (r_repr hgu (hu4 hr) B.repr (g_v gg (pv 10) rfl) (bls_rp s1 s2))) (by simp))
    (PT_tGT_eq (et_neS (e_reprB (x := s1 && s2) B.repr (e_wk (e_callE (M1 := [(dw, eqC (.dK []))]) (M1' := [(dw, anyK)]) (M2 := dM dl il) (Rz := isD (.bool (safeM (k1 + k2) (vsort (besideM ((k1, f1), (k2, f2))))))) L.safe (hr.mono (by omega)) (ea_of fun _ _ gg => ra_cons (isB_mono _ _ _ _) (g_v gg (pv 9) rfl) ra_nil) (fun vs F h => ⟨k1 + k2, _, dw, h, vbR.vs, rfl, rfl, fun _ _ h => h⟩) rfl) fun v F r => by rw [← hs12]; exact r)) (e_of fun _ _ gg => r_reprB B.repr (r_eq (d' := .bool (s1 && s2)) (r_eqD (hu4 hr) (g_v gg (pv 10) rfl) (r_lst (ds := [.bool true, .bool true]) (ra_D r_bl (ra_D r_bl ra_nil))) (by cases s1 <;> cases s2 <;> decide +kernel) (by decide +kernel)) (by rw [eqv_bl2])))) (by simp))) (fun h => nomatch h) fun _ H14 g14 => sw_nil ?_
  exact law_p2 L hgu hr two hs12 (g14.le (by walk_at "leg")) q
end
end N34

set_option Elab.async false
set_option linter.all false
set_option maxRecDepth 100000
set_option maxHeartbeats 1000000
/-! all promises together -/
namespace N34
open PySem PySem.Spec PyProof.Rows L2
def defsL : List (Str × Stmt) := [(("within" : Str), sWithin), (("less" : Str), sLess), (("more" : Str), sMore), (("is_integer" : Str), sIsInteger), (("is_number" : Str), sIsNumber), (("is_index" : Str), sIsIndex), (("is_sequence" : Str), sIsSequence), (("nobody" : Str), sNobody), (("is_batch" : Str), sIsBatch), (("_law_within" : Str), sLawWithin), (("_law_more" : Str), sLawMore), (("_law_less" : Str), sLawLess), (("sum_of" : Str), sSumOf), (("_law_sum" : Str), sLawSum), (("is_needless" : Str), sIsNeedless), (("batches_with_first" : Str), sBatchesWithFirst), (("steps" : Str), sSteps), (("checked_crowd" : Str), sCheckedCrowd), (("_law_crowds" : Str), sLawCrowds), (("chosen" : Str), sChosen), (("beside" : Str), sBeside), (("parts" : Str), sParts), (("covers_of" : Str), sCoversOf), (("clearing" : Str), sClearing), (("leaves" : Str), sLeaves), (("all_leaves" : Str), sAllLeaves), (("is_safe" : Str), sIsSafe), (("ways_on" : Str), sWaysOn), (("all_ends" : Str), sAllEnds), (("_law_clears" : Str), sLawClears), (("_law_covers" : Str), sLawCovers), (("_law_wrong_sums" : Str), sLawWrongSums), (("_law_part" : Str), sLawPart), (("_law_ends" : Str), sLawEnds), (("_law_lots" : Str), sLawLots), (("part" : Str), sPart), (("_law_refused" : Str), sLawRefused), (("_law_any" : Str), sLawAny), (("_law_of" : Str), sLawOf), (("_law_mixed" : Str), sLawMixed), (("_law_zero" : Str), sLawZero), (("_law_named" : Str), sLawNamed), (("_law_book" : Str), sLawBook), (("_law_draw" : Str), sLawDraw), (("_law_ends_right" : Str), sLawEndsRight), (("law" : Str), sLaw)]
section
variable {P : Program} {w : World} {K : PySem.W.Frag} {mg : Str → Option Value} {base : Heap} {C Rf feq fi ff fI : Addr}
theorem all_law (B : Bl mg) (T : BkF K C) (E : EqF K mg C feq) (hMk : Mk K C fi) (hB : mg "Book" = some (.ref C)) (Fi : FnM K "__init__" "Book.__init__" sBookInit fi) (hm : Meth K C "found" ff) (Ff : FnM K "found" "Book.found" sBookFound ff) (R0 : RfF P K Rf fI) (glo : mg "Refused" = some (.ref Rf)) (RX : RfxF K Rf)
    (G : ∀ (i : Nat) (x : Str) (st : Stmt), defsL[i]? = some (x, st) → FnAt K mg x st) : LawF P w K mg base C Rf feq := by
  have cWith := ok_within (P := P) (w := w) (base := base) B (G 0 _ _ rfl)
  have cLess := ok_less (P := P) (w := w) (base := base) B (G 1 _ _ rfl)
  have cMore := ok_more (P := P) (w := w) (base := base) B (G 2 _ _ rfl)
  have cInt := ok_isInteger (P := P) (w := w) (base := base) B (G 3 _ _ rfl)
  have cNum := ok_isNumber (P := P) (w := w) (base := base) B (G 4 _ _ rfl) cInt
  have cIx := ok_isIndex (P := P) (w := w) (base := base) B (G 5 _ _ rfl) cNum
  have cSeq := ok_isSequence (P := P) (w := w) (base := base) B (G 6 _ _ rfl)
  have cNo := ok_nobody (P := P) (w := w) (base := base) B (G 7 _ _ rfl)
  have cBat := ok_isBatch (P := P) (w := w) (base := base) B (G 8 _ _ rfl) cNum
  have lWith := ok_lawWithin (P := P) (w := w) (base := base) B (G 9 _ _ rfl)
  have lMor := ok_lawMore (P := P) (w := w) (base := base) B (G 10 _ _ rfl)
  have lLes := ok_lawLess (P := P) (w := w) (base := base) B (G 11 _ _ rfl)
  have cSum := ok_sumOf (P := P) (w := w) (base := base) B T (G 12 _ _ rfl) cNo cMore
  have lSum := ok_lawSum (P := P) (w := w) (base := base) B (G 13 _ _ rfl) lMor
  have cNd := ok_isNeedless (P := P) (w := w) (base := base) B T (G 14 _ _ rfl) cLess cWith
  have cBw := ok_bwf (P := P) (w := w) (base := base) B T (G 15 _ _ rfl) cWith
  have cSt := ok_steps (P := P) (w := w) (base := base) B T (G 16 _ _ rfl) cLess cWith
  have cCc := ok_checkedCrowd (P := P) (w := w) (base := base) B T (G 17 _ _ rfl) cNum cSeq
  have lCr := ok_crowds (P := P) (w := w) (base := base) B (G 18 _ _ rfl) 4
  obtain ⟨fdi, hi1, hi2⟩ := ok_init (P := P) (w := w) (mg := mg) (base := base) B T Fi cNum cSeq cBat
  have M : MkB P w K mg base C := ⟨fi, fdi, hi1, hi2, hMk, hB⟩
  have cCh := ok_chosen (P := P) (w := w) (base := base) B T (G 19 _ _ rfl) M
  have cBe := ok_beside (P := P) (w := w) (base := base) B T (G 20 _ _ rfl) M
  have cEq := ok_eq (P := P) (w := w) (base := base) B T E
  have cPaF := ok_partsF (P := P) (w := w) (base := base) B T (G 21 _ _ rfl)
  have cPa := ok_parts (P := P) (w := w) (base := base) B T (G 21 _ _ rfl)
  have cCv := ok_coversOf (P := P) (w := w) (base := base) B T (G 22 _ _ rfl) cNo cMore cNd
  have cCl := ok_clearing (P := P) (w := w) (base := base) B T (G 23 _ _ rfl) cLess cBw 20
  have cLv := ok_leaves (P := P) (w := w) (base := base) B T (G 24 _ _ rfl) cLess cSum cCv cCl
  obtain ⟨fl, fdl, hl1, hl2, hl3, hl4⟩ := cLv.ok
  have cFo := ok_found (P := P) (w := w) (mg := mg) (base := base) B T Ff ⟨fdl, hl1, hl3, hl4⟩
  have cAl := ok_allLeaves (P := P) (w := w) (base := base) B T (G 25 _ _ rfl) hm hl2 cFo
  have cSf := ok_isSafe (P := P) (w := w) (base := base) B T (G 26 _ _ rfl) cAl
  have cWy := ok_waysOn (P := P) (w := w) (base := base) B T (G 27 _ _ rfl) cSt
  have cAe := ok_allEnds (P := P) (w := w) (base := base) B T (G 28 _ _ rfl) cSt cCc cWy
  have lCl := ok_lawClears (P := P) (w := w) (base := base) B (G 29 _ _ rfl) lLes lWith 20
  have lCv := ok_lawCovers (P := P) (w := w) (base := base) B (G 30 _ _ rfl) lLes lWith lMor
  have lWs := ok_wrongSums (P := P) (w := w) (base := base) B (G 31 _ _ rfl) lLes lSum lCv lCl
  have lPt := ok_lawPart (P := P) (w := w) (base := base) B (G 32 _ _ rfl)
  have lEn := ok_lawEnds (P := P) (w := w) (base := base) B (G 33 _ _ rfl) lLes lWith
  have lLo := ok_lawLots (P := P) (w := w) (base := base) B (G 34 _ _ rfl)
  obtain ⟨fdI, hI1, hI2⟩ := ok_refInit (P := P) (w := w) (mg := mg) (base := base) R0 B.super
  have RM : RfM P w K mg base Rf := ⟨⟨fI, fdI, R0, hI1, hI2⟩, glo⟩
  have cPt := ok_part (P := P) (w := w) (base := base) B T (G 35 _ _ rfl) RM cIx cPa cCh
  have lRf := ok_lawRefused (P := P) (w := w) (base := base) B T (G 36 _ _ rfl) RM RX cPt
  have lAn := ok_lawAny (P := P) (w := w) (base := base) B (G 37 _ _ rfl)
  have lOf := ok_lawOf (P := P) (w := w) (base := base) B (G 38 _ _ rfl) lAn
  have lMi := ok_lawMixed (P := P) (w := w) (base := base) B (G 39 _ _ rfl) lAn
  have lZr := ok_lawZero (P := P) (w := w) (base := base) B (G 40 _ _ rfl)
  have lNm := ok_lawNamed (P := P) (w := w) (base := base) B (G 41 _ _ rfl) lAn lOf lZr lWith lCr
  have lBk := ok_lawBook (P := P) (w := w) (base := base) B (G 42 _ _ rfl) lAn lOf lMor lCr lNm
  have lDr := ok_lawDraw (P := P) (w := w) (base := base) B (G 43 _ _ rfl)
  have lEr := ok_lawEndsRight (P := P) (w := w) (base := base) B T (G 44 _ _ rfl) lEn lPt cAe
  exact ⟨B, T, E, cEq, M, lDr, lAn, lOf, lMi, lBk, lCr, cBe, lWs, cSf, lLo, cPaF, cPt, lPt, lEr, lRf⟩
end
end N34

set_option Elab.async false
set_option linter.all false
set_option maxRecDepth 100000
set_option maxHeartbeats 0
/-! the head: what the top leaves -/
namespace N34
open PySem PySem.Spec PyProof.Rows L2
def dTop (p : Str × Stmt) : He.DefD := ⟨(p.1, none), p.1, p.1, defArgs p.2, defBody p.2, defScope p.2, [], []⟩
def dMet (m q : Str) (st : Stmt) : He.DefD := ⟨("Book", some m), m, q, defArgs st, defBody st, defScope st, [], []⟩
def fn : List He.DefD := defsL.map dTop ++ [dMet "__init__" "Book.__init__" sBookInit, dMet "__eq__" "Book.__eq__" sBookEq, dMet "found" "Book.found" sBookFound]
def fa : List He.Fa := defsL.map (fun p => He.Fa.glo p.1) ++ [.glo "Book", .glo "Refused", .free "isinstance", .free "int", .free "bool", .free "tuple", .free "list", .free "all", .free "any", .free "sum", .free "len", .free "zip", .free "enumerate", .free "sorted", .free "range", .free "min", .free "abs", .free "repr", .free "super",
  .cls "Book", .mkr "Book", .meth "Book" "__eq__", .meth "Book" "found", .noat "Book" "kinds", .noat "Book" "batches", .noat "Book" "_found", .keep "Book"]
def loose1 : List Str := ["is_integer", "is_number", "is_index", "is_sequence", "within", "less", "more", "nobody", "is_batch", "checked_crowd", "chosen", "beside", "parts", "part", "sum_of", "is_needless", "covers_of", "clearing", "batches_with_first", "leaves", "all_leaves", "is_safe", "steps", "ways_on", "all_ends", "_law_draw", "_law_any", "_law_of", "_law_mixed", "_law_within"]
def loose2 : List Str := ["_law_more", "_law_crowds", "_law_zero", "_law_named", "_law_book", "_law_less", "_law_ends", "_law_lots", "_law_part", "_law_refused", "_law_ends_right", "_law_wrong_sums", "_law_covers", "_law_sum", "_law_clears", "LeftError", "InvalidBook", "InvalidCrowd", "Refused", "Book"]
abbrev Rr : PySem.W.OpenRow := PySem.W.OpenLaw.row PySem.Challenge.rw_noneleft_k34_whole_books_side_by_side
/-! further facts: the class Refused, its __init__ -/
abbrev bkA (K : PySem.W.Frag) : Addr := He.ga K "Book"
abbrev rfA (K : PySem.W.Frag) : Addr := He.ga K "Refused"
abbrev rfI (K : PySem.W.Frag) : Addr := He.ma K (rfA K) "__init__"
def oexB (K : PySem.W.Frag) (C : Addr) : Bool := match K.lookup C with
  | some ⟨.type t, _, .cls cd, sl⟩ => decide (t = "type") && (match cd.mro, sl.toList with
    | .ref D :: bm, [_, _, _, _, some (.builtin n), _] => decide (D = C) && (decide (n = "ValueError.__new__") && (!cd.hasDel && (cd.hasDict && PySem.HandSPX.refsVE bm)))
    | _, _ => false)
  | _ => false
theorem oexB_ok {K : PySem.W.Frag} {C : Addr} (h : oexB K C = true) : ∃ nm q N bs bm sn sub ab col dd k0 k1 k2 k3 k5, K.lookup C = some (excClassObj nm q C N bs bm true sn sub ab col dd k0 k1 k2 k3 k5 "ValueError.__new__") ∧ PySem.HandSPX.refsVE bm = true := by
  unfold oexB at h
  split at h
  · rename_i t dd cd sl ho
    rw [Bool.and_eq_true] at h
    obtain ⟨ht, h⟩ := h
    have ht' := of_decide_eq_true ht
    subst ht'
    split at h
    · rename_i D bm k0 k1 k2 k3 n k5 hm hs
      simp only [Bool.and_eq_true, decide_eq_true_eq, Bool.not_eq_true'] at h
      obtain ⟨rfl, rfl, hdel, hdict, hbm⟩ := h
      obtain ⟨nm, bs, mro, ns, qn, hd, sn, sub, ab, col, del⟩ := cd
      dsimp only at hm hdel hdict
      subst hm hdel hdict
      obtain ⟨l⟩ := sl
      have hs' : l = [k0, k1, k2, k3, some (.builtin "ValueError.__new__"), k5] := hs
      subst hs'
      exact ⟨nm, qn, ns, bs, bm, sn, sub, ab, col, dd, k0, k1, k2, k3, k5, ho, hbm⟩
    · cases h
  · cases h
abbrev RfO : Type := Option (Str × Str × Arguments × FuncBody × Scope × Addr × List Str × Addr)
def rfO (K : PySem.W.Frag) : RfO := match K.lookup (rfI K) with
  | some ⟨_, _, .func fd, _⟩ => some (fd.name, fd.qualname, fd.params, fd.body, fd.scope, fd.globals, fd.closure.map (·.1), fd.builtins)
  | _ => none
def rfV : RfO := some (("__init__" : Str), ("Refused.__init__" : Str), defArgs sRefusedInit, .stmts (defBody sRefusedInit), defScope sRefusedInit, mainGlobals, [("__class__" : Str)], builtinsNs)
abbrev fileS : Str := (Rr.prog.main.file : Str)
def rfB (K : PySem.W.Frag) : Bool := match K.lookup (rfI K) with
  | some ⟨_, _, .func fd, _⟩ => (match fd.defaults with
    | .none => true
    | _ => false) && (PySem.W.codeIn K fd.code "Refused.__init__" && ((match fd.code with
    | .ref cda => (match K.lookup cda with
      | some ⟨_, _, .fields vs, _⟩ => (match (vs[2]? : Option Value) with
        | some (.str file _) => fileS == file
        | _ => false)
      | _ => false)
    | _ => false) && (match fd.closure with
    | [(_, cc)] => (match K.lookup cc with
      | some ⟨_, _, .cell (some (.ref D)), _⟩ => decide (D = rfA K)
      | _ => false)
    | _ => false)))
  | _ => false
theorem rfB_ok {K : PySem.W.Frag} (e : rfO K = rfV) (h : rfB K = true) : ∃ (oc : Value) (od : Option Addr) (kV doc pm : Value) (an : Option Addr) (cda cc : Addr) (ct : Value) (osl : Array (Option Value)), K.lookup (rfI K) = some ⟨oc, od, .func (PySem.W.ksFn "__init__" "Refused.__init__" (defArgs sRefusedInit) (defBody sRefusedInit) (defScope sRefusedInit) .none kV doc pm an (.ref cda) ct cc), osl⟩ ∧
    PySem.W.codeIn K (.ref cda) "Refused.__init__" = true ∧ (∃ cl cld csl, K.lookup cc = some ⟨cl, cld, .cell (some (.ref (rfA K))), csl⟩) ∧ ∃ ccl cdd vs ccs file tf, K.lookup cda = some ⟨ccl, cdd, .fields vs, ccs⟩ ∧ vs[2]? = some (.str file tf) ∧ (fileS == file) = true := by
  unfold rfO at e
  unfold rfB at h
  split at h
  · rename_i oc od fd osl ho
    rw [ho] at e
    obtain ⟨n1, n2, n3, n4, n5, n6, n7, n8, n9, n10, n11, n12, n13, n14, n15⟩ := fd
    have e2 : (some (n1, n2, n3, n4, n5, n6, n7.map (·.1), n15) : RfO) = some (("__init__" : Str), ("Refused.__init__" : Str), defArgs sRefusedInit, FuncBody.stmts (defBody sRefusedInit), defScope sRefusedInit, mainGlobals, [("__class__" : Str)], builtinsNs) := e
    simp only [Option.some.injEq, Prod.mk.injEq] at e2
    obtain ⟨h1, h2, h3, h4, h5, h6, h7, h8⟩ := e2
    rw [Bool.and_eq_true, Bool.and_eq_true, Bool.and_eq_true] at h
    obtain ⟨c1, c2, c3, c4⟩ := h
    dsimp only at c1 c2 c3 c4
    split at c1
    · split at c4
      · rename_i x0 cc
        have h7' : x0 = ("__class__" : Str) := by simpa using h7
        split at c4
        · rename_i cl cld D csl hcc
          have hD := of_decide_eq_true c4
          split at c3
          · rename_i cda
            split at c3
            · rename_i ccl cdd vs ccs hcd
              split at c3
              · rename_i file tf hv
                subst h1 h2 h3 h4 h5 h6 h8 h7' hD
                exact ⟨oc, od, _, _, _, _, cda, cc, _, osl, ho, c2, ⟨cl, cld, csl, hcc⟩, ccl, cdd, vs, ccs, file, tf, hcd, hv, c3⟩
              · cases c3
            · cases c3
          · cases c3
        · cases c4
      · cases c4
    · cases c1
  · cases h
def clsB (K : PySem.W.Frag) (C : Addr) : Bool := match PySem.W.clsIn K C with
  | some cd => decide (PySem.W.alongIn K "__init__" ((cd.mro.dropWhile (· != .ref C)).drop 1) = some (some (.builtin "ValueError.__init__")))
  | none => false
def exB (K : PySem.W.Frag) : Bool := [decide (PySem.W.mroIn K (bkA K) (.type "object") = some true), decide (PySem.W.findIn K (.ref (bkA K)) "__ne__" = some (some (.builtin "object.__ne__"))),
  decide (PySem.W.findIn K (.ref (bkA K)) "__class__" = some (some (.builtin "object.__class__"))), decide (PySem.W.specialIn K (.builtin "object.__class__") "__get__" = some (some (.builtin "getset_descriptor.__get__"))), decide (PySem.W.takesIn K (.builtin "object.__class__") = some true), decide (PySem.W.kitOne K (.ref (bkA K)) (.ref (bkA K)) = some true),
  oexB K (rfA K), decide (PySem.W.findIn K (.ref (rfA K)) "__setattr__" = some (some (.builtin "object.__setattr__"))), decide (PySem.W.subIn K (.ref (rfA K)) (.type "BaseException") = some true), decide (PySem.W.typeIn K (.ref (rfA K)) = some (.type "type")), PySem.W.keepIn K (.ref (rfA K)),
  decide (PySem.W.findIn K (.ref (rfA K)) "__init__" = some (some (.ref (rfI K)))), decide (PySem.W.typeIn K (.ref (rfI K)) = some (.type "function")), rfB K, clsB K (rfA K), decide (PySem.W.subIn K (.ref (rfA K)) (.type "ValueError") = some true), decide (PySem.W.mroIn K (rfA K) (.ref (rfA K)) = some true), decide (PySem.W.nsIn K cStatics "thirdparty.any" = some none), decide (PySem.W.findIn K (.ref (rfA K)) "at" = some none),
  L2.xfB K (rfA K), decide (PySem.W.exmOne K (.ref (rfA K)) (.ref (rfA K)) = some true)].all id
abbrev AlR : Type := He.AlD × Bool × RfO
def frR (g : Addr → Option Obj) : PySem.W.Frag := He.frG g (cStatics :: He.asD g 5)
def obsR (g : Addr → Option Obj) : AlR := (He.obsD fa fn (frR g), exB (frR g), rfO (frR g))
def valR : AlR := (He.valD fn, true, rfV)
def hk : PySem.W.Hook where
  α := AlR
  obs := fun s => obsR s.heap.get?
  val := fun _ => valR
  says := fun _ h => ∃ K : PySem.W.Frag, K.In h ∧ He.SaysD fa fn K ∧ exB K = true ∧ rfO K = rfV
  of := fun _ _ e => ⟨_, He.frG_in, congrArg (fun z : AlR => z.1) e, congrArg (fun z : AlR => z.2.1) e, congrArg (fun z : AlR => z.2.2) e⟩
  keeps := fun _ _ _ ⟨K, hK, c⟩ k => ⟨K, PySem.W.Frag.In.keeps hK k, c⟩
def ob (s : PySem.W.SharedT) : AlR := obsR (HandSHeadRun.getT s)
theorem ob_eq (s : PySem.W.SharedT) : ob s = hk.obs s.abs := by
  have e : HandSHeadRun.getT s = s.abs.heap.get? := funext fun a => HandSHeadRun.getT_eq s a
  unfold ob
  rw [e]; rfl
theorem run (w : World) : HandSHeadRun.RunEq Rr (PySem.W.view Rr.prog [58]) hk ob 3000 (loose1 ++ loose2) w := by
  intro os
  kernel_rfl
end N34

set_option Elab.async false
set_option linter.all false
set_option maxRecDepth 100000
set_option maxHeartbeats 0
/-! the end -/
namespace N34
open PySem PySem.Spec PyProof.Rows L2
theorem get_app {α : Type} {l m : List α} {i : Nat} {a : α} (h : l[i]? = some a) : (l ++ m)[i]? = some a := by
  rw [List.getElem?_append_left (List.getElem?_eq_some_iff.mp h).1]; exact h
theorem exB_get {K : PySem.W.Frag} (h : exB K = true) : (PySem.W.mroIn K (bkA K) (.type "object") = some true ∧ PySem.W.findIn K (.ref (bkA K)) "__ne__" = some (some (.builtin "object.__ne__"))) ∧
    (PySem.W.findIn K (.ref (bkA K)) "__class__" = some (some (.builtin "object.__class__")) ∧ PySem.W.specialIn K (.builtin "object.__class__") "__get__" = some (some (.builtin "getset_descriptor.__get__")) ∧ PySem.W.takesIn K (.builtin "object.__class__") = some true ∧ PySem.W.kitOne K (.ref (bkA K)) (.ref (bkA K)) = some true) ∧
    (oexB K (rfA K) = true ∧ PySem.W.findIn K (.ref (rfA K)) "__setattr__" = some (some (.builtin "object.__setattr__")) ∧ PySem.W.subIn K (.ref (rfA K)) (.type "BaseException") = some true ∧ PySem.W.typeIn K (.ref (rfA K)) = some (.type "type") ∧ PySem.W.keepIn K (.ref (rfA K)) = true) ∧
    (PySem.W.findIn K (.ref (rfA K)) "__init__" = some (some (.ref (rfI K))) ∧ PySem.W.typeIn K (.ref (rfI K)) = some (.type "function") ∧ rfB K = true ∧ clsB K (rfA K) = true) ∧
    (PySem.W.subIn K (.ref (rfA K)) (.type "ValueError") = some true ∧ PySem.W.mroIn K (rfA K) (.ref (rfA K)) = some true ∧ PySem.W.nsIn K cStatics "thirdparty.any" = some none ∧ PySem.W.findIn K (.ref (rfA K)) "at" = some none) ∧ (L2.xfB K (rfA K) = true ∧ PySem.W.exmOne K (.ref (rfA K)) (.ref (rfA K)) = some true) := by
  unfold exB at h
  simp only [List.all_cons, List.all_nil, id_eq, Bool.and_eq_true, decide_eq_true_eq, and_true] at h
  obtain ⟨a1, a2, a3, a4, a5, a6, a7, a8, a9, a10, a11, a12, a13, a14, a15, a16, a17, a18, a19, a20, a21⟩ := h
  exact ⟨⟨a1, a2⟩, ⟨a3, a4, a5, a6⟩, ⟨a7, a8, a9, a10, a11⟩, ⟨a12, a13, a14, a15⟩, ⟨a16, a17, a18, a19⟩, a20, a21⟩
theorem facts {w : World} {K : PySem.W.Frag} {h : Heap} {mg : Str → Option Value} {f : Addr} (X : K.In h) (G : h.Ns mainGlobals mg) (hfa : mg ("law" : Str) = some (.ref f)) (c : He.SaysD fa fn K) (cx : exB K = true) (cr : rfO K = rfV) :
    ∃ fd : FuncData, (∀ (s : Shared) (v : Value), BindsTo s fd ⟨[v], []⟩ [("_law_script", v)]) ∧ ∀ base : Heap, K.In base → base.Ns mainGlobals mg → FnG Rr.prog w K mg base 28 f fd ["_law_script"] (spLaw K) := by
  have glo : ∀ (i : Nat) (x : Str) (st : Stmt), defsL[i]? = some (x, st) → mg x = some (.ref (He.ga K x)) := fun i x st e => He.glo_ok X G (c.fact i (f := .glo x) (get_app (by rw [List.getElem?_map, e]; rfl)))
  have hfn : ∀ (i : Nat) (x : Str) (st : Stmt), defsL[i]? = some (x, st) → FnAt K mg x st := fun i x st e => by
    obtain ⟨fd, F⟩ := c.def_ i (d := dTop (x, st)) (get_app (by rw [List.getElem?_map, e]; rfl))
    exact ⟨_, fd, F, glo i x st e⟩
  obtain ⟨⟨a1, a2⟩, ⟨a3, a4, a5, a6⟩, ⟨a7, a8, a9, a10, a11⟩, ⟨a12, a13, a14, a15⟩, ⟨a16, a17, a18, a19⟩, a20, a21⟩ := exB_get cx
  have B : Bl mg := ⟨He.free_ok X G (c.fact 48 (f := .free "isinstance") rfl), He.free_ok X G (c.fact 49 (f := .free "int") rfl), He.free_ok X G (c.fact 50 (f := .free "bool") rfl), He.free_ok X G (c.fact 51 (f := .free "tuple") rfl), He.free_ok X G (c.fact 52 (f := .free "list") rfl), He.free_ok X G (c.fact 53 (f := .free "all") rfl), He.free_ok X G (c.fact 54 (f := .free "any") rfl), He.free_ok X G (c.fact 55 (f := .free "sum") rfl), He.free_ok X G (c.fact 56 (f := .free "len") rfl), He.free_ok X G (c.fact 57 (f := .free "zip") rfl), He.free_ok X G (c.fact 58 (f := .free "enumerate") rfl), He.free_ok X G (c.fact 59 (f := .free "sorted") rfl), He.free_ok X G (c.fact 60 (f := .free "range") rfl), He.free_ok X G (c.fact 61 (f := .free "min") rfl), He.free_ok X G (c.fact 62 (f := .free "abs") rfl), He.free_ok X G (c.fact 63 (f := .free "repr") rfl), He.free_ok X G (c.fact 64 (f := .free "super") rfl)⟩
  have cB := He.cls_ok (c.fact 65 (f := .cls "Book") rfl)
  have mkB := He.mkr_ok (c.fact 66 (f := .mkr "Book") rfl)
  have mEq := He.meth_ok (c.fact 67 (f := .meth "Book" "__eq__") rfl)
  have mFo := He.meth_ok (c.fact 68 (f := .meth "Book" "found") rfl)
  have gB : mg "Book" = some (.ref (bkA K)) := He.glo_ok X G (c.fact 46 (f := .glo "Book") rfl)
  have gR : mg "Refused" = some (.ref (rfA K)) := He.glo_ok X G (c.fact 47 (f := .glo "Refused") rfl)
  have T : BkF K (bkA K) := ⟨cB, He.noat_ok (c.fact 69 (f := .noat "Book" "kinds") rfl), He.noat_ok (c.fact 70 (f := .noat "Book" "batches") rfl), He.noat_ok (c.fact 71 (f := .noat "Book" "_found") rfl), a1, a2, He.keep_ok (c.fact 72 (f := .keep "Book") rfl)⟩
  have Fi : FnM K "__init__" "Book.__init__" sBookInit (He.ma K (bkA K) "__init__") := ⟨c.def_ 46 (d := dMet "__init__" "Book.__init__" sBookInit) rfl⟩
  have Fe : FnM K "__eq__" "Book.__eq__" sBookEq (He.ma K (bkA K) "__eq__") := ⟨c.def_ 47 (d := dMet "__eq__" "Book.__eq__" sBookEq) rfl⟩
  have Ff : FnM K "found" "Book.found" sBookFound (He.ma K (bkA K) "found") := ⟨c.def_ 48 (d := dMet "found" "Book.found" sBookFound) rfl⟩
  have E : EqF K mg (bkA K) (He.ma K (bkA K) "__eq__") := ⟨⟨cB, a3, a4, a5, a1, a6⟩, gB, Fe, mEq.at_, mEq.fn⟩
  have R0 : RfF Rr.prog K (rfA K) (rfI K) := by
    refine ⟨⟨oexB_ok a7, a8, a9, a10, a11⟩, a12, a13, rfB_ok cr a14, ?_, a16, a17, a18, a19, by kernel_rfl⟩
    unfold clsB at a15
    split at a15
    · rename_i cd hcd
      exact ⟨cd, hcd, of_decide_eq_true a15⟩
    · cases a15
  have RX : RfxF K (rfA K) := ⟨L2.xfB_ok a20, a21⟩
  have hlaw : FnAt K mg "law" sLaw := hfn 45 "law" sLaw rfl
  have L : ∀ base : Heap, LawF Rr.prog w K mg base (bkA K) (rfA K) (He.ma K (bkA K) "__eq__") := fun base => all_law B T E mkB gB Fi mFo Ff R0 gR RX hfn
  obtain ⟨f0, fd0, F0, hm0⟩ := hlaw.ex
  have ef : f = f0 := by rw [hfa] at hm0; cases hm0; rfl
  subst ef
  refine ⟨fd0, fun s u => ?_, fun base _ _ => ?_⟩
  · obtain ⟨oc, od, dV, kV, doc, pm, an, cdv, ct, osl, rfl, lk, hcd, hD, hK⟩ := F0.ex
    rcases hD with ⟨_, rfl⟩ | ⟨e, _⟩
    · exact .of_eq rfl
    · exact absurd rfl e
  · exact ok_law (L base) F0
/-- the law's end where the head tells some K -/
theorem walkGE {l : PySem.W.OpenLaw} {n k : Nat} {q : Program} {loose : List Str} {XP : (Str → Option Value) → Heap → Prop} {YP : World → Heap → Prop} {d : DefRec} {x : Str} (hn : l.most = some n) (hn2 : n ≤ sizeLine) (hdf : d.params.defaults = []) (hr : Room k callerA)
    (F : ∀ (w : World) (mg : Str → Option Value) (fa : Addr) (h : Heap), YP w h → h.Ns mainGlobals mg → mg d.name = some (.ref fa) → ∃ (K : PySem.W.Frag) (fd : FuncData) (sp : Sp), K.In h ∧ (∀ (y : Shared) (u : Value), BindsTo y fd ⟨[u], []⟩ [(x, u)]) ∧ (∀ (H : Hp) (a : Addr) (ns : List Int), ns.length ≤ n → Only H → SqL K H a (ns.map V.int) → sp [.ref a] H (fun v _ => v = .bl true) fun _ _ _ => False) ∧
      ∀ base : Heap, K.In base → base.Ns mainGlobals mg → FnG l.prog w K mg base k fa fd [x] sp) : PySem.W.WalkO q loose XP YP l.row.toRowW d [] (fun f vs => PySem.call f vs) :=
  Att.attach_call hn hdf fun w _ z mg mb fa o pm cd doc a vs ns G Y ho hd hcd hmg hobj hints hlen hg => have ⟨K, fd, sp, inK, hb, hsp, hF⟩ := F w mg fa _ Y G.T.g hmg
    lawG inK G.T.g G.T.b G.T.builtins G.T.nolimit hg hobj hints (Nat.le_trans hlen hn2) hr hF hb fun H hO hS => hsp H a ns hlen hO hS
theorem hid_nil (H : Hp) : hid [] H = H := funext fun a => hid_out (by simp)
end N34
open PySem PySem.W PySem.Calls PyProof.Rows
theorem PySem.Challenge.cw_noneleft_k34_whole_books_side_by_side_holds : PySem.Challenge.rw_noneleft_k34_whole_books_side_by_side.Holds := by
  w_on; o_law
  refine HandSHeadRun.head_any (r := OpenLaw.row PySem.Challenge.rw_noneleft_k34_whole_books_side_by_side) (q := view (OpenLaw.row PySem.Challenge.rw_noneleft_k34_whole_books_side_by_side).prog [58]) (H := N34.hk) (ob := N34.ob) (M := 3000) (loose := N34.loose1 ++ N34.loose2) (d := HandSHeadRun.topDef (OpenLaw.row PySem.Challenge.rw_noneleft_k34_whole_books_side_by_side).prog 58) (kwd := []) N34.ob_eq
    (by kernel_rfl) (fun s => by kernel_rfl) N34.run (by kernel_rfl) (by kernel_rfl) (by kernel_rfl) (by rfl) (by first | assumption | decide +kernel) (by decide +kernel) ⟨rfl, rfl, rfl, rfl, rfl, by decide +kernel⟩ ?hw ?hc
  case hw => w_witness2
  case hc =>
    refine N34.walkGE (l := PySem.Challenge.rw_noneleft_k34_whole_books_side_by_side) (n := 63) (k := 28) (x := "_law_script") rfl (by decide) (by kernel_rfl) ⟨rfl, by decide, by decide⟩ ?F
    intro w mg fa h Y G hmg0
    obtain ⟨K, KX, c, cx, cr⟩ := Y
    have hmg : mg ("law" : PySem.Str) = some (.ref fa) := by
      have e : (HandSHeadRun.topDef (OpenLaw.row PySem.Challenge.rw_noneleft_k34_whole_books_side_by_side).prog 58).name = ("law" : PySem.Str) := by kernel_rfl
      rw [← e]
      exact hmg0
    obtain ⟨fd, hb, hF⟩ := N34.facts (w := w) KX G hmg c cx cr
    exact ⟨K, fd, N34.spLaw K, KX, hb, fun H a ns hl _ hS => ⟨[], ns, N34.Al.nil, ⟨_, [], rfl, ⟨a, rfl, by rw [N34.hid_nil]; exact hS⟩, rfl⟩, fun _ => rfl⟩, hF⟩
