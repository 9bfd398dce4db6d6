import PyProof.Rows.All
import Wide.All
import OpenK.AllK
import Wide.FinOn
import HandS.ForMost
import HandS.Deep
import HandS.IsInst
import KE.SortData
import PyProof.ReprRoads
import KE.DataCmp
import HandS.TupAny
import HandS.Defaults
import HandS.SortInts
import HandS.ExcOwn
import HandS.WideBits
import HandS.Style
import HandS.Conv
import HandS.SetFor
import HandS.Small
import HandS.HeadEnd
import PySem.Challenge.RW_holestold_k09_whole_complexes_go_along
import KE.KStateDown
import HandS.ForExc
import HandS.Head0
import HandS.Head1
import HandS.Head2
import HandS.HeadHook1
import HandS.HeadHook2
import Lean
section
set_option Elab.async false
set_option linter.all false
set_option maxRecDepth 100000
set_option maxHeartbeats 2000000
/-! The data layer: values as data, expressions as functions of data. -/
namespace DD
open PySem PySem.Spec PyProof.Rows L2

abbrev Da := PyData
abbrev St := L2.St

/-- the script's list: it stands in no list of ours -/
def scD (ns : List Int) : Da := .dict [(.none, .list (ns.map .int))]
mutual
/-- no script within -/
def noSc : Da → Bool
  | .list ds => noScA ds
  | .tuple ds => noScA ds
  | .dict kvs => kvs.isEmpty
  | _ => true
def noScA : List Da → Bool
  | [] => true
  | d :: ds => noSc d && noScA ds
end
def isSc : Da → Bool
  | .dict (_ :: _) => true
  | _ => false
mutual
/-- the value stands for the data, by what stands in F -/
inductive Dv (K : PySem.W.Frag) (F : Hp) : V → Da → Prop
  | non : Dv K F .non .none
  | bl (b : Bool) : Dv K F (.bl b) (.bool b)
  | int (i : Int) : Dv K F (.int i) (.int i)
  | str (x : Str) : Dv K F (.str x) (.str x)
  | lst {a : Addr} {xs : List V} {ds : List Da} : F a = some (.lst xs) → xs.length ≤ sizeLine → DvAll K F xs ds → Dv K F (.ref a) (.list ds)
  | tup {a : Addr} {xs : List V} {ds : List Da} : F a = some (.tup xs) → xs.length ≤ sizeLine → DvAll K F xs ds → Dv K F (.ref a) (.tuple ds)
  | dct {a : Addr} : F a = some (.dK []) → Dv K F (.ref a) (.dict [])
  | scr {a : Addr} {ns : List Int} : SqL K F a (ns.map V.int) → Dv K F (.ref a) (scD ns)
inductive DvAll (K : PySem.W.Frag) (F : Hp) : List V → List Da → Prop
  | nil : DvAll K F [] []
  | cons {v : V} {vs : List V} {d : Da} {ds : List Da} : Dv K F v d → DvAll K F vs ds → DvAll K F (v :: vs) (d :: ds)
end

theorem Same.sqt {K : PySem.W.Frag} {H H' : Hp} {a : Addr} {xs : List V} (e : Same H H') (h : SqT K H a xs) : SqT K H' a xs := by
  rcases h with (h | ⟨o, h⟩) | h
  · exact .inl (.inl (e _ _ h))
  · exact .inl (.inr ⟨o, e _ _ h⟩)
  · exact .inr h

theorem Same.sql {K : PySem.W.Frag} {H H' : Hp} {a : Addr} {xs : List V} (e : Same H H') (h : SqL K H a xs) : SqL K H' a xs := by
  rcases h with (h | ⟨o, h⟩) | h
  · exact .inl (.inl (e _ _ h))
  · exact .inl (.inr ⟨o, e _ _ h⟩)
  · exact .inr h
section
variable {K : PySem.W.Frag} {F F' : Hp}
mutual
theorem Dv.mono (e : Same F F') : ∀ (d : Da) (v : V), Dv K F v d → Dv K F' v d
  | .none, _, h => by cases h; exact .non
  | .bool b, _, h => by cases h; exact .bl b
  | .int i, _, h => by cases h; exact .int i
  | .str x, _, h => by cases h; exact .str x
  | .list ds, _, h => by
    cases h with
    | lst hs hz ha => exact .lst (e _ _ hs) hz (DvAll.mono e ds _ ha)
  | .tuple ds, _, h => by
    cases h with
    | tup hs hz ha => exact .tup (e _ _ hs) hz (DvAll.mono e ds _ ha)
  | .dict _, _, h => by
    cases h with
    | dct hs => exact .dct (e _ _ hs)
    | scr hs => exact .scr (Same.sql e hs)
theorem DvAll.mono (e : Same F F') : ∀ (ds : List Da) (vs : List V), DvAll K F vs ds → DvAll K F' vs ds
  | [], _, h => by cases h; exact .nil
  | d :: ds, _, h => by
    cases h with
    | cons h1 h2 => exact .cons (Dv.mono e d _ h1) (DvAll.mono e ds _ h2)
end
theorem Dv.up {v : V} {d : Da} (h : Dv K F v d) (e : Same F F') : Dv K F' v d := Dv.mono e d v h
theorem DvAll.up {vs : List V} {ds : List Da} (h : DvAll K F vs ds) (e : Same F F') : DvAll K F' vs ds := DvAll.mono e ds vs h
theorem DvAll.len : ∀ {vs : List V} {ds : List Da}, DvAll K F vs ds → vs.length = ds.length
  | _, _, .nil => rfl
  | _, _, .cons _ t => by simp [DvAll.len t]
theorem DvAll.get : ∀ {vs : List V} {ds : List Da} {i : Nat} {v : V}, DvAll K F vs ds → vs[i]? = some v → ∃ d, ds[i]? = some d ∧ Dv K F v d
  | _, _, _, _, .nil, h => by simp at h
  | _, _, 0, _, .cons h1 _, h => by simp at h; subst h; exact ⟨_, rfl, h1⟩
  | _, _, i + 1, _, .cons _ t, h => by
    obtain ⟨d, e, r⟩ := DvAll.get t (by simpa using h)
    exact ⟨d, by simpa using e, r⟩
theorem DvAll.getD : ∀ {vs : List V} {ds : List Da} {i : Nat} {d : Da}, DvAll K F vs ds → ds[i]? = some d → ∃ v, vs[i]? = some v ∧ Dv K F v d
  | _, _, _, _, .nil, h => by simp at h
  | _, _, 0, _, .cons h1 _, h => by simp at h; subst h; exact ⟨_, rfl, h1⟩
  | _, _, i + 1, _, .cons _ t, h => by
    obtain ⟨d, e, r⟩ := DvAll.getD t (by simpa using h)
    exact ⟨d, by simpa using e, r⟩
theorem DvAll.append : ∀ {vs ws : List V} {ds es : List Da}, DvAll K F vs ds → DvAll K F ws es → DvAll K F (vs ++ ws) (ds ++ es)
  | _, _, _, _, .nil, h => h
  | _, _, _, _, .cons h1 t, h => .cons h1 (DvAll.append t h)
theorem DvAll.one {v : V} {d : Da} (h : Dv K F v d) : DvAll K F [v] [d] := .cons h .nil
theorem DvAll.take : ∀ {vs : List V} {ds : List Da} (n : Nat), DvAll K F vs ds → DvAll K F (vs.take n) (ds.take n)
  | _, _, 0, _ => .nil
  | _, _, _ + 1, .nil => .nil
  | _, _, n + 1, .cons h t => .cons h (DvAll.take n t)
theorem DvAll.drop : ∀ {vs : List V} {ds : List Da} (n : Nat), DvAll K F vs ds → DvAll K F (vs.drop n) (ds.drop n)
  | _, _, 0, h => h
  | _, _, _ + 1, .nil => .nil
  | _, _, n + 1, .cons _ t => DvAll.drop n t
theorem DvAll.reverse : ∀ {vs : List V} {ds : List Da}, DvAll K F vs ds → DvAll K F vs.reverse ds.reverse
  | _, _, .nil => .nil
  | _, _, .cons h t => by
    rw [List.reverse_cons, List.reverse_cons]
    exact (DvAll.reverse t).append (.one h)
theorem DvAll.ints : ∀ ns : List Int, DvAll K F (ns.map V.int) (ns.map PyData.int)
  | [] => .nil
  | n :: ns => .cons (.int n) (DvAll.ints ns)
end

/-! ### data read off the real heap -/
section
variable {X : Cx} {pins : List (Addr × Obj)} {σ : St} {H : Hp} {s : Shared}
mutual
theorem Dv.reads (I : Inv X pins σ H s) : ∀ (d : Da) (v : V) (u : Value), noSc d = true → Dv X.K H v d → RelV v u → ∃ as, Reads s.heap u d as
  | .none, _, _, _, h, r => by cases h; cases r; exact ⟨_, Reads.none⟩
  | .bool b, _, _, _, h, r => by cases h; cases r; exact ⟨_, Reads.bool b⟩
  | .int i, _, _, _, h, r => by cases h; obtain ⟨t, rfl⟩ := r; exact ⟨_, Reads.int i t⟩
  | .str x, _, _, _, h, r => by cases h; obtain ⟨t, rfl⟩ := r; exact ⟨_, Reads.str x t⟩
  | .list ds, _, _, c, h, r => by
    cases h with
    | lst hs hz ha =>
      cases r
      obtain ⟨its, rv, ⟨o, n, ho, hc, _, hd⟩, _⟩ := I.list (SqL.of hs)
      obtain ⟨as, hr⟩ := DvAll.reads I ds _ its (by simpa [noSc] using c) ha rv
      exact ⟨_, Reads.list ho hc hd hr⟩
  | .tuple ds, _, _, c, h, r => by
    cases h with
    | tup hs hz ha =>
      cases r
      obtain ⟨its, rv, ⟨o, ho, hc, n, hd⟩, _⟩ := I.tuple (SqT.of hs)
      obtain ⟨as, hr⟩ := DvAll.reads I ds _ its (by simpa [noSc] using c) ha rv
      exact ⟨_, Reads.tuple ho hc hd hr⟩
  | .dict kvs, _, _, c, h, r => by
    cases h with
    | scr hs => simp [noSc] at c
    | dct hs =>
      cases r
      obtain ⟨_, _, vs, kv, o, es, ep, ho, hx, hd, he⟩ := I.hok _ _ hs
      cases kv
      have e0 : es.toList = [] := by
        have hp := he.2.1
        cases hq : es.toList with
        | nil => rfl
        | cons a r => rw [hq] at hp; cases hp
      refine ⟨_, Reads.dict (o := o) (es := es) (n := ep) (as := []) (bs := []) ho ?_ hd ?_ ?_⟩
      · exact hx.1
      · rw [e0]; exact .nil
      · rw [e0]; exact .nil
theorem DvAll.reads (I : Inv X pins σ H s) : ∀ (ds : List Da) (vs : List V) (us : List Value), noScA ds = true → DvAll X.K H vs ds → Vals vs us → ∃ as, ReadsAll s.heap us ds as
  | [], _, _, _, h, r => by cases h; cases r; exact ⟨_, .nil⟩
  | d :: ds, _, _, c, h, r => by
    rw [noScA, Bool.and_eq_true] at c
    cases h with
    | cons h1 h2 =>
      cases r with
      | cons r1 r2 =>
        obtain ⟨as, q1⟩ := Dv.reads I d _ _ c.1 h1 r1
        obtain ⟨bs, q2⟩ := DvAll.reads I ds _ _ c.2 h2 r2
        exact ⟨_, .cons q1 q2⟩
end
-- data without dicts as the kit's
mutual
theorem Dv.dp {K : PySem.W.Frag} {H : Hp} : ∀ (d : Da) (v : V), Dv K H v d → d.canLay0 = true → Dp K H v d
  | .none, _, h, _ => by cases h; exact .non
  | .bool b, _, h, _ => by cases h; exact .bl b
  | .int i, _, h, _ => by cases h; exact .int i
  | .str x, _, h, _ => by cases h; exact .str x
  | .list ds, _, h, c => by
    cases h with
    | lst hs hz ha => exact .lst (SqL.of hs) (DvAll.dp ds _ ha (by simpa [PyData.canLay0] using c))
  | .tuple ds, _, h, c => by
    cases h with
    | tup hs hz ha => exact .tup (SqT.of hs) (DvAll.dp ds _ ha (by simpa [PyData.canLay0] using c))
  | .dict kvs, _, _, c => by simp [PyData.canLay0] at c
theorem DvAll.dp {K : PySem.W.Frag} {H : Hp} : ∀ (ds : List Da) (vs : List V), DvAll K H vs ds → PyData.canLayAll0 ds = true → DpAll K H vs ds
  | [], _, h, _ => by cases h; exact .nil
  | d :: ds, _, h, c => by
    cases h with
    | cons h1 h2 =>
      rw [PyData.canLayAll0, Bool.and_eq_true] at c
      exact .cons (Dv.dp d _ h1 c.1) (DvAll.dp ds _ h2 c.2)
end
end

/-! ### heaps that grow -/
/-- no table of code objects -/
def NoTbl (o : HO) : Prop := ∀ ps, o ≠ .tbl ps
theorem noTbl_lst {xs : List V} : NoTbl (.lst xs) := fun _ z => nomatch z
theorem noTbl_tup {xs : List V} : NoTbl (.tup xs) := fun _ z => nomatch z
/-- all stands as it did, but tables may grow -/
structure SameN (H H' : Hp) : Prop where
  o : ∀ a o, NoTbl o → H a = some o → H' a = some o
  t : ∀ a ps, H a = some (.tbl ps) → ∃ ps', H' a = some (.tbl ps')
theorem SameN.refl (H : Hp) : SameN H H := ⟨fun _ _ _ h => h, fun _ ps h => ⟨ps, h⟩⟩
theorem SameN.trans {H H1 H2 : Hp} (a : SameN H H1) (b : SameN H1 H2) : SameN H H2 := ⟨fun x o n h => b.o x o n (a.o x o n h), fun x ps h => let ⟨_, h1⟩ := a.t x ps h; b.t x _ h1⟩
theorem SameN.of {H H' : Hp} (s : Same H H') : SameN H H' := ⟨fun a o _ h => s a o h, fun a ps h => ⟨ps, s a _ h⟩⟩
theorem SameN.lst {H H' : Hp} (s : SameN H H') {a : Addr} {xs : List V} (h : H a = some (.lst xs)) : H' a = some (.lst xs) := s.o a _ noTbl_lst h
theorem SameN.some {H H' : Hp} (s : SameN H H') {a : Addr} {o : HO} (h : H a = some o) : ∃ o', H' a = some o' := by
  by_cases q : NoTbl o
  · exact ⟨o, s.o a o q h⟩
  · have : ∃ ps, o = .tbl ps := by
      refine Classical.byContradiction fun z => q fun ps e => z ⟨ps, e⟩
    obtain ⟨ps, rfl⟩ := this
    obtain ⟨ps', h'⟩ := s.t a ps h
    exact ⟨_, h'⟩
theorem SameN.none {H H' : Hp} (s : SameN H H') {a : Addr} (h : H' a = none) : H a = none := by
  cases q : H a with
  | none => rfl
  | some o =>
    obtain ⟨o', h'⟩ := s.some q
    rw [h] at h'; cases h'
structure Ext (F H F' H' : Hp) : Prop where
  hh : SameN H H'
  ff : Same F F'
  fh : Same F' H'
  nw : ∀ a o, H a = some o → F a = none → F' a = none
  tf : ∀ a ps, F' a = some (.tbl ps) → F a = some (.tbl ps)
theorem Ext.refl {F H : Hp} (s : Same F H) : Ext F H F H := ⟨SameN.refl _, Same.refl _, s, fun _ _ _ h => h, fun _ _ h => h⟩
theorem Ext.trans {F H F1 H1 F2 H2 : Hp} (a : Ext F H F1 H1) (b : Ext F1 H1 F2 H2) : Ext F H F2 H2 :=
  ⟨a.hh.trans b.hh, a.ff.trans b.ff, b.fh, fun x o h n => let ⟨_, h1⟩ := a.hh.some h; b.nw x _ h1 (a.nw x o h n), fun x ps h => a.tf x ps (b.tf x ps h)⟩
theorem same_new {H : Hp} {p : Addr} {o : HO} (h : H p = none) : Same H (upd H p o) := fun b u e => by rw [upd_ne (ne_of_none e h)]; exact e
theorem Ext.new {F H : Hp} (s : Same F H) {p : Addr} {o : HO} (h : H p = none) (no : NoTbl o := by intro _ z; cases z) : Ext F H (upd F p o) (upd H p o) := by
  refine ⟨SameN.of (same_new h), same_new (s.free h), fun b u e => ?_, fun a u e n => ?_, fun a ps e => ?_⟩
  · by_cases q : b = p
    · subst q; rw [upd_same] at e ⊢; exact e
    · rw [upd_ne q] at e ⊢; exact s _ _ e
  · rw [upd_ne (ne_of_none e h)]; exact n
  · by_cases q : a = p
    · subst q; rw [upd_same] at e; cases e; exact absurd rfl (no ps)
    · rw [upd_ne q] at e; exact e
/-- a new object that the frozen part does not take in -/
theorem Ext.out {F H : Hp} (s : Same F H) {p : Addr} {o : HO} (h : H p = none) : Ext F H F (upd H p o) :=
  ⟨SameN.of (same_new h), Same.refl _, fun b u e => by rw [upd_ne (ne_of_none e (s.free h))]; exact s _ _ e, fun a u e n => n, fun _ _ e => e⟩

/-! ### environments of data -/
inductive Ent where
  | no
  | im (d : Da)
  | ow (ds : List Da)
  | gn (ds : List Da)
abbrev DEnv := List Ent

inductive EntOk (K : PySem.W.Frag) (F H : Hp) : Ent → Option V → List Addr → Prop
  | no {s} : EntOk K F H .no s []
  | im {v d} : Dv K F v d → EntOk K F H (.im d) (some v) []
  | ow {a xs ds} : H a = some (.lst xs) → xs.length ≤ sizeLine → DvAll K F xs ds → EntOk K F H (.ow ds) (some (.ref a)) [a]
  | gn {a xs ds} : H a = some (.lst xs) → xs.length ≤ sizeLine → DvAll K F xs ds → EntOk K F H (.gn ds) (some (.ref a)) [a]

structure EnvO (K : PySem.W.Frag) (own : Nat → List Addr) (ρ : DEnv) (σ : St) (F H : Hp) : Prop where
  sub : Same F H
  len : ρ.length = σ.length
  ent : ∀ i e s, ρ[i]? = some e → σ[i]? = some s → EntOk K F H e s (own i)
  out : ∀ i a, a ∈ own i → F a = none ∧ ∃ xs, H a = some (.lst xs)
  nt : ∀ a ps, F a ≠ some (.tbl ps)
  sep : ∀ i j a, a ∈ own i → a ∈ own j → i = j
def EnvR (K : PySem.W.Frag) (ρ : DEnv) (σ : St) (F H : Hp) : Prop := ∃ own, EnvO K own ρ σ F H

theorem EntOk.ext {K : PySem.W.Frag} {F H F' H' : Hp} {e : Ent} {s : Option V} {as : List Addr} (x : Ext F H F' H') (h : EntOk K F H e s as) : EntOk K F' H' e s as := by
  cases h with
  | no => exact .no
  | im h => exact .im (h.up x.ff)
  | ow h1 hz h2 => exact .ow (x.hh.lst h1) hz (h2.up x.ff)
  | gn h1 hz h2 => exact .gn (x.hh.lst h1) hz (h2.up x.ff)
theorem EnvO.ext {K : PySem.W.Frag} {own : Nat → List Addr} {ρ : DEnv} {σ : St} {F H F' H' : Hp} (h : EnvO K own ρ σ F H) (x : Ext F H F' H') : EnvO K own ρ σ F' H' where
  sub := x.fh
  len := h.len
  ent := fun i e s h1 h2 => (h.ent i e s h1 h2).ext x
  out := fun i a ha => by
    obtain ⟨h1, o, h2⟩ := h.out i a ha
    exact ⟨x.nw a _ h2 h1, o, x.hh.lst h2⟩
  nt := fun a ps e => h.nt a ps (x.tf a ps e)
  sep := h.sep
theorem EnvR.ext {K : PySem.W.Frag} {ρ : DEnv} {σ : St} {F H F' H' : Hp} (h : EnvR K ρ σ F H) (x : Ext F H F' H') : EnvR K ρ σ F' H' := let ⟨own, h⟩ := h; ⟨own, h.ext x⟩
theorem EnvR.sub {K : PySem.W.Frag} {ρ : DEnv} {σ : St} {F H : Hp} (h : EnvR K ρ σ F H) : Same F H := let ⟨_, h⟩ := h; h.sub

/-! ### expressions as functions of data -/
abbrev Ef := DEnv → Option Da
abbrev Tf := DEnv → Option Bool
abbrev Lf := DEnv → Option (List Da)
/-- the reading of an expression that gives f's data and changes nothing -/
def tD (K : PySem.W.Frag) (f : Ef) : TE := fun σ H Q => ∃ ρ F d, EnvR K ρ σ F H ∧ f ρ = some d ∧ ∀ v F' H', Ext F H F' H' → Dv K F' v d → Q v H'
def tT (K : PySem.W.Frag) (f : Tf) : TT := fun σ H Q => ∃ ρ F b, EnvR K ρ σ F H ∧ f ρ = some b ∧ ∀ F' H', Ext F H F' H' → Q b H'
def tA (K : PySem.W.Frag) (f : Lf) : TA := fun σ H Q => ∃ ρ F ds, EnvR K ρ σ F H ∧ f ρ = some ds ∧ ∀ vs F' H', Ext F H F' H' → DvAll K F' vs ds → Q vs H'
abbrev DE (X : Cx) (e : Expr) (f : Ef) : Prop := PE X e (tD X.K f)
abbrev DT (X : Cx) (e : Expr) (f : Tf) : Prop := PT X e (tT X.K f)
abbrev DA (X : Cx) (es : List Expr) (f : Lf) : Prop := PA X es (tA X.K f)

theorem PE.imp {X : Cx} {e : Expr} {t t' : TE} (h : PE X e t) (k : ∀ σ H Q, t' σ H Q → t σ H Q) : PE X e t' := ⟨fun pins s σ H Q I q => h.run pins s σ H Q I (k _ _ _ q)⟩
theorem PT.imp {X : Cx} {e : Expr} {t t' : TT} (h : PT X e t) (k : ∀ σ H Q, t' σ H Q → t σ H Q) : PT X e t' := ⟨fun pins s σ H Q I q => h.run pins s σ H Q I (k _ _ _ q)⟩
theorem PW.imp {X : Cx} {e : Expr} {t t' : TT} (h : PW X e t) (k : ∀ σ H Q, t' σ H Q → t σ H Q) : PW X e t' := ⟨fun w pins s σ H Q I q => h.run w pins s σ H Q I (k _ _ _ q)⟩
theorem PA.imp {X : Cx} {e : List Expr} {t t' : TA} (h : PA X e t) (k : ∀ σ H Q, t' σ H Q → t σ H Q) : PA X e t' := ⟨fun pos pins s σ H Q I q => h.run pos pins s σ H Q I (k _ _ _ q)⟩
theorem PS.imp {X : Cx} {e : Stmt} {t t' : TS} (h : PS X e t) (k : ∀ D σ H, t' D σ H → t D σ H) : PS X e t' := ⟨fun pins s σ H D I q => h.run pins s σ H D I (k _ _ _ q)⟩
theorem PSs.imp {X : Cx} {e : List Stmt} {t t' : TS} (h : PSs X e t) (k : ∀ D σ H, t' D σ H → t D σ H) : PSs X e t' := ⟨fun pins s σ H D I q => h.run pins s σ H D I (k _ _ _ q)⟩

/-! names, constants -/
def e_var (i : Nat) : Ef := fun ρ => match ρ[i]? with
  | some (.im d) => some d
  | _ => none
def e_c (d : Da) : Ef := fun _ => some d
section
variable {X : Cx}
theorem de_var (i : Nat) {x : Str} {pos : Pos} (hN : X.N[i]? = some x := by rfl) (hv : Vis X.env.scope x := by first | exact Or.inl rfl | exact Or.inr (Or.inl rfl) | exact Or.inr (Or.inr rfl)) (hd : (x == ("__debug__" : Str)) = false := by decide)
    (hcd : (x == ("__classdict__" : Str)) = false := by decide) : DE X (.Name x pos) (e_var i) := by
  refine PE.imp (pe_var hN hv hd hcd) fun σ H Q h => ?_
  obtain ⟨ρ, F, d, ⟨own, E⟩, hf, k⟩ := h
  unfold e_var at hf
  split at hf
  · rename_i d' e
    cases hf
    have hi : i < ρ.length := (List.getElem?_eq_some_iff.mp e).1
    have hσ : i < σ.length := by rw [← E.len]; exact hi
    have q := E.ent i _ _ e (List.getElem?_eq_getElem hσ)
    cases hs : σ[i] with
    | none => rw [hs] at q; generalize own i = as at q; cases q
    | some v =>
      rw [hs] at q
      generalize own i = as at q
      cases q with
      | im hv => exact ⟨v, by rw [List.getElem?_eq_getElem hσ, hs], k v F H (Ext.refl E.sub) hv⟩
  · cases hf
theorem de_int {i j pos} : DE X (.Constant (.int i) j pos) (e_c (.int i)) := PE.imp pe_int fun σ H Q ⟨ρ, F, d, E, hf, k⟩ => by cases hf; exact k _ F H (Ext.refl E.sub) (.int i)
theorem de_bl {b j pos} : DE X (.Constant (.bool b) j pos) (e_c (.bool b)) := PE.imp pe_bl fun σ H Q ⟨ρ, F, d, E, hf, k⟩ => by cases hf; exact k _ F H (Ext.refl E.sub) (.bl b)
theorem de_non {j pos} : DE X (.Constant .none j pos) (e_c .none) := PE.imp pe_non fun σ H Q ⟨ρ, F, d, E, hf, k⟩ => by cases hf; exact k _ F H (Ext.refl E.sub) .non
theorem de_str {x j pos} : DE X (.Constant (.str x) j pos) (e_c (.str x)) := PE.imp pe_str fun σ H Q ⟨ρ, F, d, E, hf, k⟩ => by cases hf; exact k _ F H (Ext.refl E.sub) (.str x)
/-- a module's constant int -/
theorem de_gint {x : Str} {i : Int} {t : Tok} {pos : Pos} (hg : Gl X x) (hm : X.mg x = some (.int i t)) (hd : (x == ("__debug__" : Str)) = false := by decide) : DE X (.Name x pos) (e_c (.int i)) :=
  PE.imp (pe_glob (v := .int i) hg hm ⟨t, rfl⟩ hd) fun σ H Q ⟨ρ, F, d, E, hf, k⟩ => by cases hf; exact k _ F H (Ext.refl E.sub) (.int i)
end

/-! argument lists -/
def l_nil : Lf := fun _ => some []
def l_cons (f : Ef) (g : Lf) : Lf := fun ρ => (f ρ).bind fun d => (g ρ).bind fun ds => some (d :: ds)
section
variable {X : Cx} {e : Expr} {es : List Expr} {f : Ef} {g : Lf}
theorem da_nil : DA X [] l_nil := PA.imp pa_nil fun σ H Q ⟨ρ, F, d, E, hf, k⟩ => by cases hf; exact k _ F H (Ext.refl E.sub) .nil
theorem da_cons (h : DE X e f) (t : DA X es g) (hs : starEach (e :: es) X.env = (false, eval e X.env) :: starEach es X.env := by rfl) : DA X (e :: es) (l_cons f g) := by
  refine PA.imp (pa_cons h t hs) fun σ H Q ⟨ρ, F, ds, E, hf, k⟩ => ?_
  unfold l_cons at hf
  obtain ⟨d, h1, hf⟩ := Option.bind_eq_some_iff.mp hf
  obtain ⟨r, h2, hf⟩ := Option.bind_eq_some_iff.mp hf
  cases hf
  exact ⟨ρ, F, d, E, h1, fun v F1 H1 x1 hv => ⟨ρ, F1, r, E.ext x1, h2, fun vs F2 H2 x2 hvs => k _ F2 H2 (x1.trans x2) (.cons (hv.up x2.ff) hvs)⟩⟩
end
end DD
end

section
set_option Elab.async false
set_option linter.all false
set_option maxRecDepth 100000
set_option maxHeartbeats 2000000
/-! The data layer: operators. -/
namespace DD
open PySem PySem.Spec PyProof.Rows L2

theorem OpR.imp {X : Cx} {f : Value → Value → Sem Value} {r r' : R2} (h : OpR X f r) (k : ∀ x y H Q, r' x y H Q → r x y H Q) : OpR X f r' := fun pins s σ H x y v u Q I rx ry q => h pins s σ H x y v u Q I rx ry (k _ _ _ _ q)

/-- an operator's reading by data -/
def rO (K : PySem.W.Frag) (o : Da → Da → Option Da) : R2 := fun x y H Q => ∃ F d e r, Same F H ∧ Dv K F x d ∧ Dv K F y e ∧ o d e = some r ∧ ∀ v F' H', Ext F H F' H' → Dv K F' v r → Q v H'
abbrev DOp (X : Cx) (f : Value → Value → Sem Value) (o : Da → Da → Option Da) : Prop := OpR X f (rO X.K o)

def e_bin (o : Da → Da → Option Da) (f g : Ef) : Ef := fun ρ => (f ρ).bind fun d => (g ρ).bind fun e => o d e
section
variable {X : Cx} {a b c : Expr} {f g k : Ef} {o o' : Da → Da → Option Da} {pos : Pos}
theorem bin_read {K : PySem.W.Frag} {σ : St} {H : Hp} {Q : VK} (h : tD K (e_bin o f g) σ H Q) : tOp (rO K o) (tD K f) (tD K g) σ H Q := by
  obtain ⟨ρ, F, d, E, hf, q⟩ := h
  unfold e_bin at hf
  obtain ⟨x, h1, hf⟩ := Option.bind_eq_some_iff.mp hf
  obtain ⟨y, h2, hf⟩ := Option.bind_eq_some_iff.mp hf
  exact ⟨ρ, F, x, E, h1, fun v F1 H1 x1 hv => ⟨ρ, F1, y, E.ext x1, h2, fun w F2 H2 x2 hw => ⟨F2, x, y, d, x2.fh, hv.up x2.ff, hw, hf, fun u F3 H3 x3 hu => q u F3 H3 ((x1.trans x2).trans x3) hu⟩⟩⟩
theorem de_bin {op : Operator} (ho : DOp X (binaryOp op) o) (ha : DE X a f) (hb : DE X b g) : DE X (.BinOp a op b pos) (e_bin o f g) := PE.imp (pe_op ho ha hb) fun _ _ _ h => bin_read h
theorem de_cmp {op : CmpOp} (ho : DOp X (compareOp op) o) (ha : DE X a f) (hb : DE X b g) (hm : behindInMarks op b = false := by first | exact nomark _ | with_unfolding_all rfl) : DE X (.Compare a [op] [b] pos) (e_bin o f g) := PE.imp (pe_cmpR ho ha hb hm) fun _ _ _ h => bin_read h
/-- truth of a bool alone -/
def t_bool (f : Ef) : Tf := fun ρ => match f ρ with
  | some (.bool b) => some b
  | _ => none
theorem test_read {K : PySem.W.Frag} {f : Ef} {σ : St} {H : Hp} {Q : Bool → Hp → Prop} {t : TE} (ht : ∀ Q, tD K f σ H Q → t σ H Q) (h : tT K (t_bool f) σ H Q) : tTest t σ H Q := by
  obtain ⟨ρ, F, b, E, hf, q⟩ := h
  unfold t_bool at hf
  split at hf
  · rename_i b' e
    cases hf
    exact ht _ ⟨ρ, F, .bool b, E, e, fun v F1 H1 x1 hv => by cases hv; exact ⟨b, rfl, q F1 H1 x1⟩⟩
  · cases hf
theorem dt_cmp {op : CmpOp} (ho : DOp X (compareOp op) o) (ha : DE X a f) (hb : DE X b g) (hm : behindInMarks op b = false := by first | exact nomark _ | with_unfolding_all rfl) : DT X (.Compare a [op] [b] pos) (t_bool (e_bin o f g)) :=
  PT.imp (pt_cmpR ho ha hb hm) fun _ _ _ h => test_read (fun _ z => bin_read z) h
/-- a op b op' c -/
def e_chain (o o' : Da → Da → Option Da) (f g k : Ef) : Ef := fun ρ => (f ρ).bind fun d => (g ρ).bind fun e => match o d e with
  | some (.bool true) => (k ρ).bind fun z => o' e z
  | some (.bool false) => some (.bool false)
  | _ => none
theorem chain_read {K : PySem.W.Frag} {σ : St} {H : Hp} {Q : VK} (h : tD K (e_chain o o' f g k) σ H Q) : tChain (rO K o) (rO K o') (tD K f) (tD K g) (tD K k) σ H Q := by
  obtain ⟨ρ, F, d, E, hf, q⟩ := h
  unfold e_chain at hf
  obtain ⟨x, h1, hf⟩ := Option.bind_eq_some_iff.mp hf
  obtain ⟨y, h2, hf⟩ := Option.bind_eq_some_iff.mp hf
  refine ⟨ρ, F, x, E, h1, fun v F1 H1 x1 hv => ⟨ρ, F1, y, E.ext x1, h2, fun w F2 H2 x2 hw => ?_⟩⟩
  split at hf
  · rename_i e
    obtain ⟨z, h3, hf⟩ := Option.bind_eq_some_iff.mp hf
    refine ⟨F2, x, y, .bool true, x2.fh, hv.up x2.ff, hw, e, fun u F3 H3 x3 hu => ?_⟩
    cases hu
    refine ⟨true, rfl, ?_⟩
    refine iteT ?_
    exact ⟨ρ, F3, z, E.ext ((x1.trans x2).trans x3), h3, fun r F4 H4 x4 hr => ⟨F4, y, z, d, x4.fh, (hw.up x3.ff).up x4.ff, hr, hf, fun t F5 H5 x5 ht => q t F5 H5 ((((x1.trans x2).trans x3).trans x4).trans x5) ht⟩⟩
  · rename_i e
    cases hf
    refine ⟨F2, x, y, .bool false, x2.fh, hv.up x2.ff, hw, e, fun u F3 H3 x3 hu => ?_⟩
    cases hu
    refine ⟨false, rfl, ?_⟩
    refine iteF ?_
    exact q _ F3 H3 ((x1.trans x2).trans x3) (.bl false)
  · cases hf
theorem de_chain {op op' : CmpOp} (ho : DOp X (compareOp op) o) (ho' : DOp X (compareOp op') o') (ha : DE X a f) (hb : DE X b g) (hc : DE X c k) (hm : lastMarks [op, op'] [b, c] = false := by with_unfolding_all rfl) :
    DE X (.Compare a [op, op'] [b, c] pos) (e_chain o o' f g k) := PE.imp (pe_chain ho ho' ha hb hc hm) fun _ _ _ h => chain_read h
theorem dt_chain {op op' : CmpOp} (ho : DOp X (compareOp op) o) (ho' : DOp X (compareOp op') o') (ha : DE X a f) (hb : DE X b g) (hc : DE X c k) (hm : lastMarks [op, op'] [b, c] = false := by with_unfolding_all rfl) :
    DT X (.Compare a [op, op'] [b, c] pos) (t_bool (e_chain o o' f g k)) := PT.imp (pt_chain ho ho' ha hb hc hm) fun _ _ _ h => test_read (fun _ z => chain_read z) h
end

/-! ### the operators -/
section
variable {X : Cx}
/-- ints, texts, lists -/
def o_add : Da → Da → Option Da
  | .int i, .int j => some (.int (i + j))
  | .list a, .list b => if a.length + b.length ≤ sizeLine then some (.list (a ++ b)) else none
  | .str a, .str b => if a.length + b.length ≤ sizeLine then some (.str (a ++ b)) else none
  | _, _ => none
theorem do_add : DOp X (binaryOp .Add) o_add := by
  refine OpR.imp (OpR.or op_add (OpR.or op_cat op_add_str)) fun x y H Q h => ?_
  obtain ⟨F, d, e, r, sub, hx, hy, ho, k⟩ := h
  unfold o_add at ho
  split at ho
  · cases ho
    cases hx; cases hy
    exact .inl ⟨_, _, rfl, rfl, k _ F H (Ext.refl sub) (.int _)⟩
  · split at ho
    · rename_i hle
      cases ho
      cases hx with
      | lst h1 hz1 h2 =>
        cases hy with
        | lst h3 hz3 h4 =>
          refine .inr (.inl ⟨_, _, _, _, rfl, rfl, sub _ _ h1, sub _ _ h3, by rw [h2.len, h4.len]; exact hle, fun p hp => ?_⟩)
          exact k _ _ _ (Ext.new sub hp) (.lst upd_same (by rw [List.length_append, h2.len, h4.len]; exact hle) ((h2.append h4).up (Ext.new sub hp).ff))
    · cases ho
  · split at ho
    · rename_i hle
      cases ho
      cases hx; cases hy
      exact .inr (.inr ⟨_, _, rfl, rfl, hle, k _ F H (Ext.refl sub) (.str _)⟩)
    · cases ho
  · cases ho
def o_int (p : Int → Int → Option Int) : Da → Da → Option Da
  | .int i, .int j => (p i j).map .int
  | _, _ => none
theorem o_int_of {f : Value → Value → Sem Value} {C : Int → Int → Prop} {g : Int → Int → Int} {p : Int → Int → Option Int} (h : OpR X f (rI C fun i j => .int (g i j))) (hp : ∀ i j r, p i j = some r → C i j ∧ r = g i j) : DOp X f (o_int p) := by
  refine OpR.imp h fun x y H Q h => ?_
  obtain ⟨F, d, e, r, sub, hx, hy, ho, k⟩ := h
  unfold o_int at ho
  split at ho
  · rename_i i j
    obtain ⟨n, e1, e2⟩ := Option.map_eq_some_iff.mp ho
    subst e2
    obtain ⟨c, rfl⟩ := hp i j n e1
    cases hx; cases hy
    exact ⟨_, _, rfl, rfl, c, k _ F H (Ext.refl sub) (.int _)⟩
  · cases ho
def p_sub (i j : Int) : Option Int := some (i - j)
theorem do_sub : DOp X (binaryOp .Sub) (o_int p_sub) := o_int_of (C := fun _ _ => True) (g := fun i j => i - j) (OpR.imp op_sub fun x y H Q ⟨i, j, a, b, _, q⟩ => ⟨i, j, a, b, q⟩) fun i j r h => by cases h; exact ⟨trivial, rfl⟩
def p_mod (i j : Int) : Option Int := if j = 0 then none else some (i.fmod j)
theorem do_mod : DOp X (binaryOp .Mod) (o_int p_mod) := o_int_of (C := fun _ j => j ≠ 0) (g := fun i j => i.fmod j) op_modN fun i j r h => by
  unfold p_mod at h
  split at h
  · cases h
  · rename_i hj; cases h; exact ⟨hj, rfl⟩
def p_mul (i j : Int) : Option Int := if -(2 ^ 64) < i ∧ i < 2 ^ 64 ∨ -(2 ^ 64) < j ∧ j < 2 ^ 64 then some (i * j) else none
theorem do_mul : DOp X (binaryOp .Mult) (o_int p_mul) := o_int_of (C := CMul) (g := fun i j => i * j) op_mul fun i j r h => by
  unfold p_mul at h
  split at h
  · rename_i hj; cases h; exact ⟨hj, rfl⟩
  · cases h

/-- ints; a list so many times -/
def o_mult : Da → Da → Option Da
  | .int i, .int j => (p_mul i j).map .int
  | .list xs, .int k => if (-(2 ^ 63) ≤ k ∧ k < 2 ^ 63) ∧ xs.length * k.toNat ≤ sizeLine then some (.list (List.replicate k.toNat xs).flatten) else none
  | _, _ => none
theorem DvAll.rep {K : PySem.W.Frag} {F : Hp} {vs : List V} {ds : List Da} (h : DvAll K F vs ds) : ∀ n : Nat, DvAll K F (List.replicate n vs).flatten (List.replicate n ds).flatten
  | 0 => .nil
  | n + 1 => by
    rw [List.replicate_succ, List.replicate_succ, List.flatten_cons, List.flatten_cons]
    exact h.append (DvAll.rep h n)
theorem flat_len {α : Type} (xs : List α) : ∀ n : Nat, ((List.replicate n xs).flatten).length = xs.length * n
  | 0 => rfl
  | n + 1 => by
    rw [List.replicate_succ, List.flatten_cons, List.length_append, flat_len xs n, Nat.mul_succ, Nat.add_comm]
theorem do_mult : DOp X (binaryOp .Mult) o_mult := by
  refine OpR.imp (OpR.or do_mul op_rep) fun x y H Q ⟨F, d, e, r, sub, hx, hy, ho, k⟩ => ?_
  unfold o_mult at ho
  split at ho
  · exact .inl ⟨F, _, _, r, sub, hx, hy, ho, k⟩
  · split at ho
    · rename_i hc
      cases ho
      cases hy
      cases hx with
      | lst h1 hz h2 =>
        refine .inr ⟨_, _, _, rfl, rfl, sub _ _ h1, hc.1.1, hc.1.2, by rw [h2.len]; exact hc.2, fun p hp => ?_⟩
        exact k _ _ _ (Ext.new sub hp) (.lst upd_same (by rw [flat_len, h2.len]; exact hc.2) ((h2.rep _).up (Ext.new sub hp).ff))
    · cases ho
  · cases ho

/-! comparisons -/
def okD (d : Da) : Bool := SeqAt.shaped d
def o_eq (d e : Da) : Option Da := if okD d && okD e then some (.bool (PyData.eqv d e)) else none
def o_ne (d e : Da) : Option Da := if okD d && okD e then some (.bool (!PyData.eqv d e)) else none
theorem do_eq (hu : X.A.units + 64 < cLine) : DOp X (compareOp .Eq) o_eq := by
  refine OpR.imp (op_eqD hu) fun x y H Q h => ?_
  obtain ⟨F, d, e, r, sub, hx, hy, ho, k⟩ := h
  unfold o_eq at ho
  split at ho
  · rename_i c
    cases ho
    obtain ⟨c1, c2⟩ := Bool.and_eq_true_iff.mp c
    exact ⟨d, e, Dv.dp _ _ (hx.up sub) (SeqAt.canLay_of_shaped c1), Dv.dp _ _ (hy.up sub) (SeqAt.canLay_of_shaped c2), c1, c2, k _ F H (Ext.refl sub) (.bl _)⟩
  · cases ho
theorem do_ne (hu : X.A.units + 64 < cLine) : DOp X (compareOp .NotEq) o_ne := by
  refine OpR.imp (op_neD hu) fun x y H Q h => ?_
  obtain ⟨F, d, e, r, sub, hx, hy, ho, k⟩ := h
  unfold o_ne at ho
  split at ho
  · rename_i c
    cases ho
    obtain ⟨c1, c2⟩ := Bool.and_eq_true_iff.mp c
    exact ⟨d, e, Dv.dp _ _ (hx.up sub) (SeqAt.canLay_of_shaped c1), Dv.dp _ _ (hy.up sub) (SeqAt.canLay_of_shaped c2), c1, c2, k _ F H (Ext.refl sub) (.bl _)⟩
  · cases ho
def items? : Da → Option (List Da)
  | .list xs => some xs
  | .tuple xs => some xs
  | _ => none
def scal : Da → Bool
  | .none | .bool _ | .int _ | .str _ => true
  | _ => false
theorem scal_flat {K : PySem.W.Frag} {F : Hp} {v : V} {d : Da} (h : Dv K F v d) (s : scal d = true) : flatV v = true := by
  cases h <;> first | rfl | cases s
theorem scal_eq {K : PySem.W.Frag} {F : Hp} {v w : V} {d e : Da} (h : Dv K F v d) (g : Dv K F w e) (s : scal d = true) (t : scal e = true) : eqV v w = PyData.eqv d e := by
  cases h <;> cases g <;> first | (cases s; done) | (cases t; done) | rfl | (simp [eqV, PyData.eqv]; done)
theorem scal_all {K : PySem.W.Frag} {F : Hp} : ∀ {vs : List V} {ds : List Da}, DvAll K F vs ds → ds.all scal = true → vs.all flatV = true
  | _, _, .nil, _ => rfl
  | _, _, .cons h t, s => by
    rw [List.all_cons, Bool.and_eq_true] at s
    rw [List.all_cons, scal_flat h s.1, scal_all t s.2]; rfl
theorem scal_in {K : PySem.W.Frag} {F : Hp} {x : V} {d : Da} (hx : Dv K F x d) (s : scal d = true) : ∀ {vs : List V} {ds : List Da}, DvAll K F vs ds → ds.all scal = true → inV x vs = ds.any fun z => PyData.eqv z d
  | _, _, .nil, _ => rfl
  | _, _, .cons h t, s2 => by
    rw [List.all_cons, Bool.and_eq_true] at s2
    show (eqV _ _ || inV x _) = _
    rw [List.any_cons, scal_eq h hx s2.1 s, scal_in hx s t s2.2]
def o_in (d e : Da) : Option Da := match e with
  | .list xs => if okD d && okD e then some (.bool (xs.any fun z => PyData.eqv z d)) else none
  | .tuple xs => if scal d && xs.all scal then some (.bool (xs.any fun z => PyData.eqv z d)) else none
  | _ => none
def o_notin (d e : Da) : Option Da := match e with
  | .list xs => if okD d && okD e then some (.bool (!xs.any fun z => PyData.eqv z d)) else none
  | .tuple xs => if scal d && xs.all scal then some (.bool (!xs.any fun z => PyData.eqv z d)) else none
  | _ => none
theorem do_in (hu : X.A.units + 65 < cLine) : DOp X (compareOp .In) o_in := by
  refine OpR.imp (OpR.or (op_inD hu) op_in_seq) fun x y H Q h => ?_
  obtain ⟨F, d, e, r, sub, hx, hy, ho, k⟩ := h
  unfold o_in at ho
  split at ho
  · rename_i xs
    split at ho
    · rename_i c
      cases ho
      obtain ⟨c1, c2⟩ := Bool.and_eq_true_iff.mp c
      exact .inl ⟨d, xs, Dv.dp _ _ (hx.up sub) (SeqAt.canLay_of_shaped c1), Dv.dp _ _ (hy.up sub) (SeqAt.canLay_of_shaped c2), c1, c2, k _ F H (Ext.refl sub) (.bl _)⟩
    · cases ho
  · rename_i xs
    split at ho
    · rename_i c
      cases ho
      obtain ⟨c1, c2⟩ := Bool.and_eq_true_iff.mp c
      cases hy with
      | tup h1 hz h2 =>
        refine .inr ⟨_, _, rfl, .inr (SqT.of (sub _ _ h1)), scal_flat hx c1, scal_all h2 c2, ?_⟩
        rw [scal_in hx c1 h2 c2]
        exact k _ F H (Ext.refl sub) (.bl _)
    · cases ho
  · cases ho
theorem do_notin (hu : X.A.units + 65 < cLine) : DOp X (compareOp .NotIn) o_notin := by
  refine OpR.imp (OpR.or (op_notInD hu) op_notIn_seq) fun x y H Q h => ?_
  obtain ⟨F, d, e, r, sub, hx, hy, ho, k⟩ := h
  unfold o_notin at ho
  split at ho
  · rename_i xs
    split at ho
    · rename_i c
      cases ho
      obtain ⟨c1, c2⟩ := Bool.and_eq_true_iff.mp c
      exact .inl ⟨d, xs, Dv.dp _ _ (hx.up sub) (SeqAt.canLay_of_shaped c1), Dv.dp _ _ (hy.up sub) (SeqAt.canLay_of_shaped c2), c1, c2, k _ F H (Ext.refl sub) (.bl _)⟩
    · cases ho
  · rename_i xs
    split at ho
    · rename_i c
      cases ho
      obtain ⟨c1, c2⟩ := Bool.and_eq_true_iff.mp c
      cases hy with
      | tup h1 hz h2 =>
        refine .inr ⟨_, _, rfl, .inr (SqT.of (sub _ _ h1)), scal_flat hx c1, scal_all h2 c2, ?_⟩
        rw [scal_in hx c1 h2 c2]
        exact k _ F H (Ext.refl sub) (.bl _)
    · cases ho
  · cases ho
/-- an order of alike data -/
def isNone : Da → Bool
  | .none => true
  | _ => false
def o_ord (p : Da → Da → Bool) (d e : Da) : Option Da := if PySem.W.alike d e && !isNone d && decide (d.depth ≤ 60) && (noSc d && noSc e) then some (.bool (p d e)) else none
theorem ord_of {op : CmpOp} {p : Da → Da → Bool} (hu : X.A.units + 64 < cLine)
    (rule : ∀ (da db : PyData) (a b : Value) (as bs : List Addr) (Q : Value → Shared → Prop) (s : Shared), Reads s.heap a da as → Reads s.heap b db bs → PySem.W.alike da db = true → da ≠ .none → X.A.units + min da.depth db.depth < cLine → Q (.bool (p da db)) s → wpAny (model X.prog X.w) X.A (compareOp op a b) Q X.xe s) :
    DOp X (compareOp op) (o_ord p) := by
  intro pins s σ H x y v u Q I rx ry h
  obtain ⟨F, d, e, r, sub, hx, hy, ho, k⟩ := h
  unfold o_ord at ho
  split at ho
  · rename_i c
    cases ho
    simp only [Bool.and_eq_true, Bool.not_eq_true', decide_eq_true_eq] at c
    obtain ⟨⟨⟨c1, c2⟩, c3⟩, c4, c5⟩ := c
    obtain ⟨as, r1⟩ := Dv.reads I d x v c4 (hx.up sub) rx
    obtain ⟨bs, r2⟩ := Dv.reads I e y u c5 (hy.up sub) ry
    refine rule d e v u as bs _ s r1 r2 c1 (fun z => by subst z; cases c2) ?_ ⟨.bl _, H, I, rfl, k _ F H (Ext.refl sub) (.bl _)⟩
    have : min d.depth e.depth ≤ d.depth := Nat.min_le_left _ _
    omega
  · cases ho
theorem do_lt (hu : X.A.units + 64 < cLine) : DOp X (compareOp .Lt) (o_ord PySem.W.dataLt) := ord_of hu fun da db a b as bs Q s r1 r2 h hn hu hq => PySem.W.lt_data r1 r2 h hn hu hq
theorem do_gt (hu : X.A.units + 64 < cLine) : DOp X (compareOp .Gt) (o_ord fun d e => PySem.W.dataLt e d) := ord_of hu fun da db a b as bs Q s r1 r2 h hn hu hq => PySem.W.gt_data r1 r2 h hn hu hq
theorem do_le (hu : X.A.units + 64 < cLine) : DOp X (compareOp .LtE) (o_ord fun d e => !PySem.W.dataLt e d) := ord_of hu fun da db a b as bs Q s r1 r2 h hn hu hq => PySem.W.le_data r1 r2 h hn hu hq
theorem do_ge (hu : X.A.units + 64 < cLine) : DOp X (compareOp .GtE) (o_ord fun d e => !PySem.W.dataLt d e) := ord_of hu fun da db a b as bs Q s r1 r2 h hn hu hq => PySem.W.ge_data r1 r2 h hn hu hq
end

/-! ### and, or, not, if -/
section
variable {X : Cx} {a b c : Expr} {rest : List Expr} {f g : Ef} {t u : Tf} {pos : Pos}
def e_and (f g : Ef) : Ef := fun ρ => match f ρ with
  | some (.bool true) => g ρ
  | some (.bool false) => some (.bool false)
  | _ => none
def e_or (f g : Ef) : Ef := fun ρ => match f ρ with
  | some (.bool false) => g ρ
  | some (.bool true) => some (.bool true)
  | _ => none
def e_not (f : Ef) : Ef := fun ρ => match f ρ with
  | some (.bool b) => some (.bool (!b))
  | _ => none
theorem de_one {op} (h : DE X a f) : DE X (.BoolOp op [a] pos) f := pe_one h
theorem de_and (ha : DE X a f) (hb : DE X (.BoolOp .And (b :: rest) pos) g) : DE X (.BoolOp .And (a :: b :: rest) pos) (e_and f g) := by
  refine PE.imp (pe_and ha hb) fun σ H Q ⟨ρ, F, d, E, hf, q⟩ => ?_
  unfold e_and at hf
  split at hf
  · rename_i e
    exact ⟨ρ, F, _, E, e, fun v F1 H1 x1 hv => by
      cases hv
      refine ⟨true, rfl, ?_⟩
      refine iteT ?_
      exact ⟨ρ, F1, d, E.ext x1, hf, fun w F2 H2 x2 hw => q w F2 H2 (x1.trans x2) hw⟩⟩
  · rename_i e
    cases hf
    exact ⟨ρ, F, _, E, e, fun v F1 H1 x1 hv => by
      cases hv
      refine ⟨false, rfl, ?_⟩
      refine iteF ?_
      exact q _ F1 H1 x1 (.bl false)⟩
  · cases hf
theorem de_or (ha : DE X a f) (hb : DE X (.BoolOp .Or (b :: rest) pos) g) : DE X (.BoolOp .Or (a :: b :: rest) pos) (e_or f g) := by
  refine PE.imp (pe_or ha hb) fun σ H Q ⟨ρ, F, d, E, hf, q⟩ => ?_
  unfold e_or at hf
  split at hf
  · rename_i e
    exact ⟨ρ, F, _, E, e, fun v F1 H1 x1 hv => by
      cases hv
      refine ⟨false, rfl, ?_⟩
      refine iteF ?_
      exact ⟨ρ, F1, d, E.ext x1, hf, fun w F2 H2 x2 hw => q w F2 H2 (x1.trans x2) hw⟩⟩
  · rename_i e
    cases hf
    exact ⟨ρ, F, _, E, e, fun v F1 H1 x1 hv => by
      cases hv
      refine ⟨true, rfl, ?_⟩
      refine iteT ?_
      exact q _ F1 H1 x1 (.bl true)⟩
  · cases hf
theorem de_not (ha : DE X a f) : DE X (.UnaryOp .Not a pos) (e_not f) := by
  refine PE.imp (pe_not ha) fun σ H Q ⟨ρ, F, d, E, hf, q⟩ => ?_
  unfold e_not at hf
  split at hf
  · rename_i b e
    cases hf
    exact ⟨ρ, F, _, E, e, fun v F1 H1 x1 hv => by cases hv; exact ⟨b, rfl, q _ F1 H1 x1 (.bl _)⟩⟩
  · cases hf
def t_and (t u : Tf) : Tf := fun ρ => match t ρ with
  | some true => u ρ
  | some false => some false
  | none => none
def t_or (t u : Tf) : Tf := fun ρ => match t ρ with
  | some false => u ρ
  | some true => some true
  | none => none
def t_not (t : Tf) : Tf := fun ρ => (t ρ).map fun b => !b
abbrev DW (X : Cx) (e : Expr) (f : Tf) : Prop := PW X e (tT X.K f)
theorem DW.dt (h : DW X a t) : DT X a t := PW.pt h
theorem dw_and1 (ha : DT X a t) : DW X (.BoolOp .And [a] pos) t := pw_and1 ha
theorem dw_or1 (ha : DT X a t) : DW X (.BoolOp .Or [a] pos) t := pw_or1 ha
theorem dw_and (ha : DT X a t) (hb : DW X (.BoolOp .And (b :: rest) pos) u) : DW X (.BoolOp .And (a :: b :: rest) pos) (t_and t u) := by
  refine PW.imp (pw_and ha hb) fun σ H Q ⟨ρ, F, d, E, hf, q⟩ => ?_
  unfold t_and at hf
  split at hf
  · rename_i e
    exact ⟨ρ, F, _, E, e, fun F1 H1 x1 => by
      refine iteT ?_
      exact ⟨ρ, F1, d, E.ext x1, hf, fun F2 H2 x2 => q F2 H2 (x1.trans x2)⟩⟩
  · rename_i e
    cases hf
    exact ⟨ρ, F, _, E, e, fun F1 H1 x1 => by
      refine iteF ?_
      exact q F1 H1 x1⟩
  · cases hf
theorem dw_or (ha : DT X a t) (hb : DW X (.BoolOp .Or (b :: rest) pos) u) : DW X (.BoolOp .Or (a :: b :: rest) pos) (t_or t u) := by
  refine PW.imp (pw_or ha hb) fun σ H Q ⟨ρ, F, d, E, hf, q⟩ => ?_
  unfold t_or at hf
  split at hf
  · rename_i e
    exact ⟨ρ, F, _, E, e, fun F1 H1 x1 => by
      refine iteF ?_
      exact ⟨ρ, F1, d, E.ext x1, hf, fun F2 H2 x2 => q F2 H2 (x1.trans x2)⟩⟩
  · rename_i e
    cases hf
    exact ⟨ρ, F, _, E, e, fun F1 H1 x1 => by
      refine iteT ?_
      exact q F1 H1 x1⟩
  · cases hf
theorem dt_not (ha : DT X a t) : DT X (.UnaryOp .Not a pos) (t_not t) := by
  refine PT.imp (pt_not ha) fun σ H Q ⟨ρ, F, d, E, hf, q⟩ => ?_
  obtain ⟨b, e, rfl⟩ := Option.map_eq_some_iff.mp hf
  exact ⟨ρ, F, b, E, e, q⟩
/-- an expression by truth -/
def truth : Da → Option Bool
  | .none => some false
  | .bool b => some b
  | .int i => some (i != 0)
  | .list xs => some (!xs.isEmpty)
  | .tuple xs => some (!xs.isEmpty)
  | _ => none
def t_val (f : Ef) : Tf := fun ρ => (f ρ).bind truth
theorem isEmpty_len {α β : Type} {xs : List α} {ys : List β} (h : xs.length = ys.length) : xs.isEmpty = ys.isEmpty := by
  cases xs <;> cases ys <;> first | rfl | (simp at h)
theorem dt_val (ha : DE X a f) (he : ∀ whole, isTrue a X.env whole = (do let v ← whole; standAt a.pos; holding [v] (truthy v)) := by intro _; rfl) : DT X a (t_val f) := by
  refine PT.imp (pt_truth ha he) fun σ H Q ⟨ρ, F, b, E, hf, q⟩ => ?_
  obtain ⟨d, e, ht⟩ := Option.bind_eq_some_iff.mp hf
  refine ⟨ρ, F, d, E, e, fun v F1 H1 x1 hv => ⟨b, ?_, q F1 H1 x1⟩⟩
  unfold truth at ht
  split at ht <;> (cases ht)
  · cases hv; rfl
  · cases hv; rfl
  · cases hv; rfl
  · cases hv with
    | lst h1 hz1 h2 => exact .inl ⟨_, SqL.of (x1.fh _ _ h1), by rw [isEmpty_len h2.len]⟩
  · cases hv with
    | tup h1 hz1 h2 => exact .inr (.inl ⟨_, SqT.of (x1.fh _ _ h1), by rw [isEmpty_len h2.len]⟩)
def e_if (t : Tf) (f g : Ef) : Ef := fun ρ => match t ρ with
  | some true => f ρ
  | some false => g ρ
  | none => none
theorem de_if (hc : DT X c t) (ha : DE X a f) (hb : DE X b g) : DE X (.IfExp c a b pos) (e_if t f g) := by
  refine PE.imp (pe_ifExp hc ha hb) fun σ H Q ⟨ρ, F, d, E, hf, q⟩ => ?_
  unfold e_if at hf
  split at hf
  · rename_i e
    exact ⟨ρ, F, _, E, e, fun F1 H1 x1 => by
      refine iteT ?_
      exact ⟨ρ, F1, d, E.ext x1, hf, fun v F2 H2 x2 hv => q v F2 H2 (x1.trans x2) hv⟩⟩
  · rename_i e
    exact ⟨ρ, F, _, E, e, fun F1 H1 x1 => by
      refine iteF ?_
      exact ⟨ρ, F1, d, E.ext x1, hf, fun v F2 H2 x2 hv => q v F2 H2 (x1.trans x2) hv⟩⟩
  · cases hf
end
end DD
end

section
set_option Elab.async false
set_option linter.all false
set_option maxRecDepth 100000
set_option maxHeartbeats 2000000
/-! The data layer: displays, subscripts, slices, calls of built-ins. -/
namespace DD
open PySem PySem.Spec PyProof.Rows L2

/-! ### displays -/
def e_lst (l : Lf) : Ef := fun ρ => (l ρ).bind fun ds => if ds.length ≤ sizeLine then some (.list ds) else none
def e_tup (l : Lf) : Ef := fun ρ => (l ρ).bind fun ds => if ds.length ≤ sizeLine then some (.tuple ds) else none
section
variable {X : Cx} {es : List Expr} {l : Lf} {pos : Pos}
theorem de_lst (h : DA X es l) : DE X (.List es pos) (e_lst l) := by
  refine PE.imp (pe_lst h) fun σ H Q ⟨ρ, F, d, E, hf, q⟩ => ?_
  obtain ⟨ds, h1, hf⟩ := Option.bind_eq_some_iff.mp hf
  split at hf
  · rename_i hle
    cases hf
    exact ⟨ρ, F, ds, E, h1, fun vs F1 H1 x1 hv => ⟨by rw [hv.len]; exact hle, fun p hp => q _ _ _ (x1.trans (Ext.new x1.fh hp)) (.lst upd_same (by rw [hv.len]; exact hle) (hv.up (Ext.new x1.fh hp).ff))⟩⟩
  · cases hf
theorem de_tup {k} (h : DA X es l) : DE X (.Tuple es k pos) (e_tup l) := by
  refine PE.imp (pe_tup h) fun σ H Q ⟨ρ, F, d, E, hf, q⟩ => ?_
  obtain ⟨ds, h1, hf⟩ := Option.bind_eq_some_iff.mp hf
  split at hf
  · rename_i hle
    cases hf
    exact ⟨ρ, F, ds, E, h1, fun vs F1 H1 x1 hv => ⟨by rw [hv.len]; exact hle, fun p hp => q _ _ _ (x1.trans (Ext.new x1.fh hp)) (.tup upd_same (by rw [hv.len]; exact hle) (hv.up (Ext.new x1.fh hp).ff))⟩⟩
  · cases hf
end

/-! ### subscripts -/
theorem atI_map {K : PySem.W.Frag} {F : Hp} {vs : List V} {ds : List Da} {i : Int} {d : Da} (h : DvAll K F vs ds) (e : atI ds i = some d) : ∃ v, atI vs i = some v ∧ Dv K F v d := by
  unfold atI at e ⊢
  rw [h.len]
  obtain ⟨j, h1, h2⟩ := Option.bind_eq_some_iff.mp e
  obtain ⟨v, h3, h4⟩ := h.getD h2
  exact ⟨v, by rw [h1]; exact h3, h4⟩
def o_ix (d e : Da) : Option Da := match d, e with
  | .list xs, .int i => atI xs i
  | .tuple xs, .int i => atI xs i
  | .str z, .int i => if z.length ≤ sizeLine then (atI z.cps.toList i).map fun c => .str ⟨#[c]⟩ else none
  | .dict [(.none, .list xs)], .int i => atI xs i
  | _, _ => none
def refOf : V → Addr
  | .ref a => a
  | _ => 0
theorem sc_of {K : PySem.W.Frag} {F : Hp} {v : V} {xs : List Da} (h : Dv K F v (.dict [(.none, .list xs)])) : ∃ ns : List Int, xs = ns.map .int ∧ v = .ref (refOf v) ∧ SqL K F (refOf v) (ns.map V.int) := by
  generalize hd : (PyData.dict [(.none, .list xs)]) = d at h
  cases h <;> first | (cases hd; done) | skip
  rename_i a ns hq
  have e : xs = ns.map .int := by
    unfold scD at hd
    injection hd with hd
    injection hd with hd _
    injection hd with _ hd
    injection hd
  exact ⟨ns, e, rfl, hq⟩
section
variable {X : Cx} {a b : Expr} {f g : Ef} {pos : Pos}
theorem ix_read {K : PySem.W.Frag} : ∀ x y H Q, rO K o_ix x y H Q → rIx K x y H Q := by
  intro x y H Q h
  obtain ⟨F, d, e, r, sub, hx, hy, ho, k⟩ := h
  unfold o_ix at ho
  split at ho
  · cases hy
    cases hx with
    | lst h1 hz1 h2 =>
      obtain ⟨v, e1, e2⟩ := atI_map h2 ho
      exact .inl ⟨_, _, _, v, rfl, rfl, SqL.of (sub _ _ h1), e1, k _ F H (Ext.refl sub) e2⟩
  · cases hy
    cases hx with
    | tup h1 hz1 h2 =>
      obtain ⟨v, e1, e2⟩ := atI_map h2 ho
      exact .inr (.inl ⟨_, _, _, v, rfl, rfl, SqT.of (sub _ _ h1), e1, k _ F H (Ext.refl sub) e2⟩)
  · split at ho
    · rename_i hz
      obtain ⟨c, e1, rfl⟩ := Option.map_eq_some_iff.mp ho
      cases hx; cases hy
      exact .inr (.inr ⟨_, _, c, rfl, rfl, hz, e1, k _ F H (Ext.refl sub) (.str _)⟩)
    · cases ho
  · obtain ⟨ns, hns, hq⟩ := sc_of hx
    subst hns
    cases hy
    obtain ⟨v, e1, e2⟩ := atI_map (DvAll.ints ns) ho
    exact .inl ⟨_, _, _, v, hq.1, rfl, Same.sql sub hq.2, e1, k _ F H (Ext.refl sub) e2⟩
  · cases ho
theorem de_ix (ha : DE X a f) (hb : DE X b g) (hs : PlainIx b := by exact fun _ _ => rfl) : DE X (.Subscript a b pos) (e_bin o_ix f g) :=
  PE.imp (pe_ix ix_seq ha hb hs) fun σ H Q h => by
    obtain ⟨ρ, F, d, E, h1, q⟩ := bin_read h
    exact ⟨ρ, F, d, E, h1, fun v F' H' x hv => by
      obtain ⟨ρ2, F2, d2, E2, h2, q2⟩ := q v F' H' x hv
      exact ⟨ρ2, F2, d2, E2, h2, fun w F3 H3 x3 hw => ix_read _ _ _ _ (q2 w F3 H3 x3 hw)⟩⟩
end

/-! ### slices -/
def cutL {α : Type} (xs : List α) (lo hi : Option Int) : List α := (xs.drop (HT.sIx xs.length 0 lo)).take (HT.sIx xs.length xs.length hi - HT.sIx xs.length 0 lo)
theorem DvAll.cut {K : PySem.W.Frag} {F : Hp} {vs : List V} {ds : List Da} (h : DvAll K F vs ds) (lo hi : Option Int) : DvAll K F (cutV vs lo hi) (cutL ds lo hi) := by
  unfold cutV cutL
  rw [h.len]
  exact (h.drop _).take _
abbrev Pf := DEnv → Option (Option Int)
def tO (K : PySem.W.Frag) (g : Pf) : TO := fun σ H Q => ∃ ρ F o, EnvR K ρ σ F H ∧ g ρ = some o ∧ ∀ F' H', Ext F H F' H' → Q o H'
abbrev DO (X : Cx) (e : Option Expr) (g : Pf) : Prop := PO X e (tO X.K g)
def p_no : Pf := fun _ => some none
def p_at (f : Ef) : Pf := fun ρ => match f ρ with
  | some (.int i) => some (some i)
  | _ => none
theorem PO.imp {X : Cx} {e : Option Expr} {t t' : TO} (h : PO X e t) (k : ∀ σ H Q, t' σ H Q → t σ H Q) : PO X e t' := ⟨fun pins s σ H Q I q => h.run pins s σ H Q I (k _ _ _ q)⟩
def o_cut (d : Da) (lo hi : Option Int) : Option Da := match d with
  | .list xs => some (.list (cutL xs lo hi))
  | .tuple xs => some (.tuple (cutL xs lo hi))
  | .str z => if z.length ≤ sizeLine then some (.str (cutS z lo hi)) else none
  | .dict [(.none, .list xs)] => if xs.length ≤ sizeLine then some (.list (cutL xs lo hi)) else none
  | _ => none
def e_cut (f : Ef) (l h : Pf) : Ef := fun ρ => (f ρ).bind fun d => (l ρ).bind fun lo => (h ρ).bind fun hi => o_cut d lo hi
section
variable {X : Cx} {a : Expr} {lo hi : Option Expr} {f : Ef} {l h : Pf} {pos p2 : Pos}
theorem do_no : DO X none p_no := PO.imp po_none fun σ H Q ⟨ρ, F, o, E, hf, q⟩ => by cases hf; exact q F H (Ext.refl E.sub)
theorem do_at (ha : DE X a f) : DO X (some a) (p_at f) := by
  refine PO.imp (po_some ha) fun σ H Q ⟨ρ, F, o, E, hf, q⟩ => ?_
  unfold p_at at hf
  split at hf
  · rename_i i e
    cases hf
    exact ⟨ρ, F, _, E, e, fun v F1 H1 x1 hv => by cases hv; exact ⟨i, rfl, q F1 H1 x1⟩⟩
  · cases hf
def rSl (K : PySem.W.Frag) : V → Option Int → Option Int → Hp → VK → Prop := fun x lo hi H Q => ∃ F d r, Same F H ∧ Dv K F x d ∧ o_cut d lo hi = some r ∧ ∀ v F' H', Ext F H F' H' → Dv K F' v r → Q v H'
theorem sl_data : SlR X (rSl X.K) := by
  have base := SlR.or (sl_list (X := X)) (SlR.or (sl_tupA (X := X)) (sl_str (X := X)))
  intro pins s σ H x v vl vu lo hi sl Q I rx hs pl pu q
  refine base pins s σ H x v vl vu lo hi sl Q I rx hs pl pu ?_
  obtain ⟨F, d, r, sub, hx, ho, k⟩ := q
  unfold o_cut at ho
  split at ho
  · cases ho
    cases hx with
    | lst h1 hz1 h2 => exact .inl ⟨_, _, rfl, SqL.of (sub _ _ h1), fun p hp => k _ _ _ (Ext.new sub hp) (.lst upd_same (Nat.le_trans (cutV_length _ _ _) hz1) ((h2.cut lo hi).up (Ext.new sub hp).ff))⟩
  · cases ho
    cases hx with
    | tup h1 hz1 h2 =>
      refine .inr (.inl ⟨_, _, rfl, SqT.of (sub _ _ h1), fun hw => ?_, fun _ p hp => k _ _ _ (Ext.new sub hp) (.tup upd_same (Nat.le_trans (cutV_length _ _ _) hz1) ((h2.cut lo hi).up (Ext.new sub hp).ff))⟩)
      refine k _ F H (Ext.refl sub) (.tup h1 hz1 ?_)
      have e := h2.cut lo hi
      unfold cutV at e
      rw [hw.1, hw.2] at e
      simpa using e
  · split at ho
    · rename_i hz
      cases ho
      cases hx
      exact .inr (.inr ⟨_, rfl, hz, k _ F H (Ext.refl sub) (.str _)⟩)
    · cases ho
  · split at ho
    · rename_i hz
      cases ho
      obtain ⟨ns, hns, hq⟩ := sc_of hx
      subst hns
      exact .inl ⟨_, _, hq.1, Same.sql sub hq.2, fun p hp => k _ _ _ (Ext.new sub hp) (.lst upd_same (Nat.le_trans (cutV_length _ _ _) (by simpa using hz)) (((DvAll.ints ns).cut lo hi).up (Ext.new sub hp).ff))⟩
    · cases ho
  · cases ho
theorem de_cut (ha : DE X a f) (hl : DO X lo l) (hh : DO X hi h) : DE X (.Subscript a (.Slice lo hi none p2) pos) (e_cut f l h) := by
  refine PE.imp (pe_slice sl_data ha hl hh) fun σ H Q ⟨ρ, F, d, E, hf, q⟩ => ?_
  unfold e_cut at hf
  obtain ⟨x, h1, hf⟩ := Option.bind_eq_some_iff.mp hf
  obtain ⟨i, h2, hf⟩ := Option.bind_eq_some_iff.mp hf
  obtain ⟨j, h3, hf⟩ := Option.bind_eq_some_iff.mp hf
  exact ⟨ρ, F, x, E, h1, fun v F1 H1 x1 hv => ⟨ρ, F1, i, E.ext x1, h2, fun F2 H2 x2 => ⟨ρ, F2, j, E.ext (x1.trans x2), h3, fun F3 H3 x3 =>
    ⟨F3, x, d, x3.fh, (hv.up x2.ff).up x3.ff, hf, fun w F4 H4 x4 hw => q w F4 H4 (((x1.trans x2).trans x3).trans x4) hw⟩⟩⟩⟩
end

/-! ### calls by data -/
def rC (K : PySem.W.Frag) (o : List Da → Option Da) : List V → Hp → VK → Prop := fun vs H Q => ∃ F ds r, Same F H ∧ DvAll K F vs ds ∧ o ds = some r ∧ ∀ v F' H', Ext F H F' H' → Dv K F' v r → Q v H'
abbrev DC (X : Cx) (f : Value) (o : List Da → Option Da) : Prop := CallR X f (rC X.K o)
theorem CallR.imp {X : Cx} {f : Value} {r r' : List V → Hp → VK → Prop} (h : CallR X f r) (k : ∀ xs H Q, r' xs H Q → r xs H Q) : CallR X f r' := fun pins s σ H xs us Q I rs q => h pins s σ H xs us Q I rs (k _ _ _ q)
def e_call (o : List Da → Option Da) (l : Lf) : Ef := fun ρ => (l ρ).bind o
section
variable {X : Cx} {e : Expr} {es : List Expr} {o : List Da → Option Da} {l : Lf} {x : Str} {p pos : Pos}
theorem call_read {K : PySem.W.Frag} {σ : St} {H : Hp} {Q : VK} (h : tD K (e_call o l) σ H Q) : tCB (rC K o) (tA K l) σ H Q := by
  obtain ⟨ρ, F, d, E, hf, q⟩ := h
  obtain ⟨ds, h1, hf⟩ := Option.bind_eq_some_iff.mp hf
  exact ⟨ρ, F, ds, E, h1, fun vs F1 H1 x1 hv => ⟨F1, ds, d, x1.fh, hv, hf, fun v F2 H2 x2 hw => q v F2 H2 (x1.trans x2) hw⟩⟩
theorem de_callB {id : String} (hc : DC X (.builtin id) o) (hm : X.mg x = none) (hv : bootBuiltins x = some (.builtin id)) (ha : DA X (e :: es) l) (hg : Gl X x := by rfl) (hn : x ≠ "__name__" := by decide) (hdb : (x == ("__debug__" : Str)) = false := by decide)
    (he : starEach (e :: es) X.env = (false, eval e X.env) :: starEach es X.env := by rfl) (hpl : (backTo pos (starEach es X.env)).any (·.1) = false := by rfl) : DE X (.Call (.Name x p) (e :: es) [] pos) (e_call o l) :=
  PE.imp (pe_callB hc hg hm hv ha hn hdb he hpl) fun _ _ _ h => call_read h
theorem de_callT {T : String} (hc : DC X (.type T) o) (hm : X.mg x = none) (hv : bootBuiltins x = some (.type T)) (ha : DA X (e :: es) l) (hg : Gl X x := by rfl) (hn : x ≠ "__name__" := by decide) (hdb : (x == ("__debug__" : Str)) = false := by decide)
    (he : starEach (e :: es) X.env = (false, eval e X.env) :: starEach es X.env := by rfl) (hpl : (backTo pos (starEach es X.env)).any (·.1) = false := by rfl) : DE X (.Call (.Name x p) (e :: es) [] pos) (e_call o l) :=
  PE.imp (pe_callTy hc hg hm hv ha hn hdb he hpl) fun _ _ _ h => call_read h
end

section
variable {X : Cx}
/-- len -/
def c_len : List Da → Option Da
  | [.list xs] => some (.int xs.length)
  | [.tuple xs] => some (.int xs.length)
  | [.str z] => if z.length ≤ sizeLine then some (.int z.length) else none
  | [.dict [(.none, .list xs)]] => some (.int xs.length)
  | _ => none
theorem dc_len : DC X (.builtin "len") c_len := by
  refine CallR.imp (CallR.or call_len_seq call_len_str) fun vs H Q ⟨F, ds, r, sub, hv, ho, k⟩ => ?_
  unfold c_len at ho
  split at ho
  · cases ho
    cases hv with
    | cons h1 h2 =>
      cases h2
      cases h1 with
      | lst h1 hz1 h2 => exact .inl ⟨_, _, rfl, .inl (SqL.of (sub _ _ h1)), by rw [h2.len]; exact k _ F H (Ext.refl sub) (.int _)⟩
  · cases ho
    cases hv with
    | cons h1 h2 =>
      cases h2
      cases h1 with
      | tup h1 hz1 h2 => exact .inl ⟨_, _, rfl, .inr (SqT.of (sub _ _ h1)), by rw [h2.len]; exact k _ F H (Ext.refl sub) (.int _)⟩
  · split at ho
    · rename_i hz
      cases ho
      cases hv with
      | cons h1 h2 =>
        cases h2
        cases h1
        exact .inr ⟨_, rfl, hz, k _ F H (Ext.refl sub) (.int _)⟩
    · cases ho
  · cases ho
    cases hv with
    | cons h1 h2 =>
      cases h2
      obtain ⟨ns, hns, hq⟩ := sc_of h1
      subst hns
      refine .inl ⟨refOf _, _, by exact congrArg (fun z => [z]) hq.1, .inl (Same.sql sub hq.2), ?_⟩
      have e := k (.int (ns.map V.int).length) F H (Ext.refl sub)
      simp only [List.length_map] at e ⊢
      exact e (.int _)
  · cases ho
/-- list(xs) -/
def c_list : List Da → Option Da
  | [.list xs] => some (.list xs)
  | [.tuple xs] => some (.list xs)
  | _ => none
theorem dc_list : DC X (.type "list") c_list := by
  refine CallR.imp call_list_of fun vs H Q ⟨F, ds, r, sub, hv, ho, k⟩ => ?_
  unfold c_list at ho
  split at ho
  · cases ho
    cases hv with
    | cons h1 h2 =>
      cases h2
      cases h1 with
      | lst h1 hz1 h2 => exact ⟨_, _, rfl, .inl (SqL.of (sub _ _ h1)), fun l hl => k _ _ _ (Ext.new sub hl) (.lst upd_same hz1 (h2.up (Ext.new sub hl).ff))⟩
  · cases ho
    cases hv with
    | cons h1 h2 =>
      cases h2
      cases h1 with
      | tup h1 hz1 h2 => exact ⟨_, _, rfl, .inr (SqT.of (sub _ _ h1)), fun l hl => k _ _ _ (Ext.new sub hl) (.lst upd_same hz1 (h2.up (Ext.new sub hl).ff))⟩
  · cases ho
/-- bools -/
def bools? : List Da → Option (List Bool)
  | [] => some []
  | .bool b :: r => (bools? r).map fun bs => b :: bs
  | _ :: _ => none
theorem bools_of {K : PySem.W.Frag} {F : Hp} : ∀ {vs : List V} {ds : List Da} {bs : List Bool}, DvAll K F vs ds → bools? ds = some bs → vs = bs.map V.bl
  | _, [], _, h, e => by cases h; cases e; rfl
  | _, d :: ds, _, h, e => by
    cases h with
    | cons h1 h2 =>
      unfold bools? at e
      split at e
      · rename_i heq; cases heq
      · rename_i heq
        cases heq
        obtain ⟨r, e1, rfl⟩ := Option.map_eq_some_iff.mp e
        cases h1
        rw [bools_of h2 e1]
        rfl
      · cases e
def c_all : List Da → Option Da
  | [.list xs] => (bools? xs).map fun bs => .bool (bs.all id)
  | _ => none
def c_any : List Da → Option Da
  | [.list xs] => (bools? xs).map fun bs => .bool (bs.any id)
  | _ => none
theorem dc_all (hc : X.calm = true := by rfl) : DC X (.builtin "all") c_all := by
  refine CallR.imp (cr_all hc) fun vs H Q ⟨F, ds, r, sub, hv, ho, k⟩ => ?_
  unfold c_all at ho
  split at ho
  · obtain ⟨bs, e1, rfl⟩ := Option.map_eq_some_iff.mp ho
    cases hv with
    | cons h1 h2 =>
      cases h2
      cases h1 with
      | lst h1 hz1 h2 => exact ⟨_, bs, rfl, SqL.of (by rw [← bools_of h2 e1]; exact sub _ _ h1), k _ F H (Ext.refl sub) (.bl _)⟩
  · cases ho
theorem dc_any (hc : X.calm = true := by rfl) : DC X (.builtin "any") c_any := by
  refine CallR.imp (cr_any hc) fun vs H Q ⟨F, ds, r, sub, hv, ho, k⟩ => ?_
  unfold c_any at ho
  split at ho
  · obtain ⟨bs, e1, rfl⟩ := Option.map_eq_some_iff.mp ho
    cases hv with
    | cons h1 h2 =>
      cases h2
      cases h1 with
      | lst h1 hz1 h2 => exact ⟨_, bs, rfl, SqL.of (by rw [← bools_of h2 e1]; exact sub _ _ h1), k _ F H (Ext.refl sub) (.bl _)⟩
  · cases ho
/-- ints -/
def ints? : List Da → Option (List Int)
  | [] => some []
  | .int b :: r => (ints? r).map fun bs => b :: bs
  | _ :: _ => none
theorem ints_of {K : PySem.W.Frag} {F : Hp} : ∀ {vs : List V} {ds : List Da} {bs : List Int}, DvAll K F vs ds → ints? ds = some bs → vs = bs.map V.int
  | _, [], _, h, e => by cases h; cases e; rfl
  | _, d :: ds, _, h, e => by
    cases h with
    | cons h1 h2 =>
      unfold ints? at e
      split at e
      · rename_i heq; cases heq
      · rename_i heq
        cases heq
        obtain ⟨r, e1, rfl⟩ := Option.map_eq_some_iff.mp e
        cases h1
        rw [ints_of h2 e1]
        rfl
      · cases e
def c_sum : List Da → Option Da
  | [.list xs] => (ints? xs).map fun bs => .int bs.sum
  | _ => none
theorem dc_sum (hc : X.calm = true := by rfl) : DC X (.builtin "sum") c_sum := by
  refine CallR.imp (cr_sum hc) fun vs H Q ⟨F, ds, r, sub, hv, ho, k⟩ => ?_
  unfold c_sum at ho
  split at ho
  · obtain ⟨bs, e1, rfl⟩ := Option.map_eq_some_iff.mp ho
    cases hv with
    | cons h1 h2 =>
      cases h2
      cases h1 with
      | lst h1 hz1 h2 => exact ⟨_, bs, rfl, SqL.of (by rw [← ints_of h2 e1]; exact sub _ _ h1), k _ F H (Ext.refl sub) (.int _)⟩
  · cases ho
/-- int(x) -/
def c_int : List Da → Option Da
  | [.int i] => some (.int i)
  | [.bool b] => some (.int (if b then 1 else 0))
  | _ => none
theorem dc_int : DC X (.type "int") c_int := by
  refine CallR.imp call_int1 fun vs H Q ⟨F, ds, r, sub, hv, ho, k⟩ => ?_
  unfold c_int at ho
  split at ho
  · cases ho
    cases hv with
    | cons h1 h2 => cases h2; cases h1; exact .inl ⟨_, rfl, k _ F H (Ext.refl sub) (.int _)⟩
  · cases ho
    cases hv with
    | cons h1 h2 => cases h2; cases h1; exact .inr ⟨_, rfl, k _ F H (Ext.refl sub) (.int _)⟩
  · cases ho
/-- max(a, b), min(a, b) -/
def c_max2 : List Da → Option Da
  | [.int i, .int j] => some (.int (if j > i then j else i))
  | _ => none
def c_min2 : List Da → Option Da
  | [.int i, .int j] => some (.int (if j < i then j else i))
  | _ => none
theorem dc_max2 (hc : X.calm = true := by rfl) : DC X (.builtin "max") c_max2 := by
  refine CallR.imp (call_max2 hc) fun vs H Q ⟨F, ds, r, sub, hv, ho, k⟩ => ?_
  unfold c_max2 at ho
  split at ho
  · cases ho
    cases hv with
    | cons h1 h2 =>
      cases h2 with
      | cons h2 h3 => cases h3; cases h1; cases h2; exact ⟨_, _, rfl, k _ F H (Ext.refl sub) (.int _)⟩
  · cases ho
theorem dc_min2 (hc : X.calm = true := by rfl) : DC X (.builtin "min") c_min2 := by
  refine CallR.imp (call_min2 hc) fun vs H Q ⟨F, ds, r, sub, hv, ho, k⟩ => ?_
  unfold c_min2 at ho
  split at ho
  · cases ho
    cases hv with
    | cons h1 h2 =>
      cases h2 with
      | cons h2 h3 => cases h3; cases h1; cases h2; exact ⟨_, _, rfl, k _ F H (Ext.refl sub) (.int _)⟩
  · cases ho
end
end DD
end

section
set_option Elab.async false
set_option linter.all false
set_option maxRecDepth 100000
set_option maxHeartbeats 2000000
/-! The data layer: what is walked, targets, comprehensions. -/
namespace DD
open PySem PySem.Spec PyProof.Rows L2

/-! ### what is walked -/
structure Dlv (K : PySem.W.Frag) (J : It) (F : Hp) (ds : List Da) : Prop where
  size : ds.length ≤ sizeLine
  go : ∀ i F' H', Same F F' → Same F' H' → i < ds.length → J.go i H'
  stop : ∀ F' H', Same F F' → Same F' H' → J.stop ds.length H'
  yld : ∀ i F' H' x H'', Same F F' → Same F' H' → i < ds.length → J.yld i H' x H'' → ∃ F'' d, ds[i]? = some d ∧ Ext F' H' F'' H'' ∧ Dv K F'' x d
def tI (K : PySem.W.Frag) (f : Lf) : TI := fun σ H R => ∃ ρ F ds, EnvR K ρ σ F H ∧ f ρ = some ds ∧ ∀ J F' H', Ext F H F' H' → Dlv K J F' ds → R J H'
abbrev DI (X : Cx) (tg iter : Expr) (f : Lf) : Prop := PI X tg iter (tI X.K f)
theorem PI.imp {X : Cx} {tg e : Expr} {t t' : TI} (h : PI X tg e t) (k : ∀ σ H R, t' σ H R → t σ H R) : PI X tg e t' := ⟨fun pins s σ H Q I q => h.run pins s σ H Q I (k _ _ _ q)⟩
theorem PI.or {X : Cx} {tg e : Expr} {t t' : TI} (h : PI X tg e t) (h' : PI X tg e t') : PI X tg e (fun σ H R => t σ H R ∨ t' σ H R) := ⟨fun pins s σ H Q I q => q.elim (h.run pins s σ H Q I) (h'.run pins s σ H Q I)⟩

theorem dlv_list {K : PySem.W.Frag} {F : Hp} {a : Addr} {xs : List V} {ds : List Da} (h1 : F a = some (.lst xs)) (hz : xs.length ≤ sizeLine) (h2 : DvAll K F xs ds) : Dlv K (Itl K a) F ds where
  size := by rw [← h2.len]; exact hz
  go := fun i F' H' s1 s2 hi => by
    have hx : i < xs.length := by rw [h2.len]; exact hi
    exact ⟨xs, xs[i], SqL.of (s2 _ _ (s1 _ _ h1)), List.getElem?_eq_getElem hx⟩
  stop := fun F' H' s1 s2 => ⟨xs, SqL.of (s2 _ _ (s1 _ _ h1)), by rw [h2.len]; exact Nat.le_refl _⟩
  yld := fun i F' H' x H'' s1 s2 hi hy => by
    obtain ⟨rfl, hy⟩ := hy
    have e := hy xs (SqL.of (s2 _ _ (s1 _ _ h1)))
    obtain ⟨d, e1, e2⟩ := h2.get e
    exact ⟨F', d, e1, Ext.refl s2, e2.up s1⟩
theorem dlv_tup {K : PySem.W.Frag} {F : Hp} {a : Addr} {xs : List V} {ds : List Da} (h1 : F a = some (.tup xs)) (hz : xs.length ≤ sizeLine) (h2 : DvAll K F xs ds) : Dlv K (Itt K a) F ds where
  size := by rw [← h2.len]; exact hz
  go := fun i F' H' s1 s2 hi => by
    have hx : i < xs.length := by rw [h2.len]; exact hi
    exact ⟨xs, xs[i], SqT.of (s2 _ _ (s1 _ _ h1)), List.getElem?_eq_getElem hx⟩
  stop := fun F' H' s1 s2 => ⟨xs, SqT.of (s2 _ _ (s1 _ _ h1)), by rw [h2.len]; exact Nat.le_refl _⟩
  yld := fun i F' H' x H'' s1 s2 hi hy => by
    obtain ⟨rfl, hy⟩ := hy
    have e := hy xs (SqT.of (s2 _ _ (s1 _ _ h1)))
    obtain ⟨d, e1, e2⟩ := h2.get e
    exact ⟨F', d, e1, Ext.refl s2, e2.up s1⟩
def rangeD (lo : Int) (n : Nat) : List Da := (List.range n).map fun i => .int (lo + (i : Nat))
theorem rangeD_len (lo : Int) (n : Nat) : (rangeD lo n).length = n := by simp [rangeD]
theorem dlv_range {K : PySem.W.Frag} {F : Hp} {lo : Int} {n : Nat} (hz : n ≤ sizeLine) : Dlv K (Itr lo n) F (rangeD lo n) where
  size := by rw [rangeD_len]; exact hz
  go := fun i F' H' s1 s2 hi => by rw [rangeD_len] at hi; exact hi
  stop := fun F' H' s1 s2 => by rw [rangeD_len]; exact Nat.le_refl _
  yld := fun i F' H' x H'' s1 s2 hi hy => by
    obtain ⟨rfl, rfl⟩ := hy
    rw [rangeD_len] at hi
    exact ⟨F', .int (lo + (i : Nat)), by simp [rangeD, hi], Ext.refl s2, .int _⟩

def l_items (f : Ef) : Lf := fun ρ => match f ρ with
  | some (.list xs) => some xs
  | some (.tuple xs) => some xs
  | _ => none
def l_range1 (l : Lf) : Lf := fun ρ => match l ρ with
  | some [.int n] => if n ≤ (sizeLine : Int) ∧ -(2 ^ 62) ≤ n then some (rangeD 0 n.toNat) else none
  | _ => none
def l_range2 (l : Lf) : Lf := fun ρ => match l ρ with
  | some [.int a, .int b] => if (-(2 ^ 61) ≤ a ∧ a < 2 ^ 61 ∧ -(2 ^ 61) ≤ b ∧ b < 2 ^ 61) ∧ b - a ≤ (sizeLine : Int) then some (rangeD a (b - a).toNat) else none
  | _ => none
def enumD : Nat → List Da → List Da
  | _, [] => []
  | n, d :: ds => .tuple [.int (n : Nat), d] :: enumD (n + 1) ds
theorem enumD_len : ∀ (ds : List Da) (n : Nat), (enumD n ds).length = ds.length
  | [], _ => rfl
  | d :: ds, n => by simp [enumD, enumD_len ds]
theorem enumD_get : ∀ (ds : List Da) (n i : Nat) (d : Da), ds[i]? = some d → (enumD n ds)[i]? = some (.tuple [.int ((n + i : Nat)), d])
  | [], _, _, _, h => by simp at h
  | d :: ds, n, 0, _, h => by simp at h; subst h; rfl
  | d :: ds, n, i + 1, e, h => by
    have := enumD_get ds (n + 1) i e (by simpa using h)
    simp only [enumD, List.getElem?_cons_succ]
    rw [this]
    congr 4
    omega
def zipD (ds es : List Da) : List Da := List.zipWith (fun d e => .tuple [d, e]) ds es
def l_enum (f : Lf) : Lf := fun ρ => match f ρ with
  | some [.list xs] => some (enumD 0 xs)
  | _ => none
def l_zip (f : Lf) : Lf := fun ρ => match f ρ with
  | some [.list xs, .list ys] => some (zipD xs ys)
  | _ => none
section
variable {X : Cx} {tg e : Expr} {es : List Expr} {f : Ef} {l : Lf} {p pos tpos : Pos} {elts : List Expr} {kk : Nat}
theorem di_items (h : DE X e f) : DI X tg e (l_items f) := by
  refine PI.imp (PI.or (pi_list h) (pi_tup h)) fun σ H R ⟨ρ, F, ds, E, hf, q⟩ => ?_
  unfold l_items at hf
  split at hf
  · rename_i xs e
    cases hf
    exact .inl ⟨ρ, F, _, E, e, fun v F1 H1 x1 hv => by
      cases hv with
      | lst h1 hz h2 => exact ⟨_, rfl, ⟨_, SqL.of (x1.fh _ _ h1)⟩, q _ F1 H1 x1 (dlv_list h1 hz h2)⟩⟩
  · rename_i xs e
    cases hf
    exact .inr ⟨ρ, F, _, E, e, fun v F1 H1 x1 hv => by
      cases hv with
      | tup h1 hz h2 => exact ⟨_, rfl, ⟨_, SqT.of (x1.fh _ _ h1)⟩, q _ F1 H1 x1 (dlv_tup h1 hz h2)⟩⟩
  · cases hf
theorem one_int {K : PySem.W.Frag} {F : Hp} {vs : List V} {n : Int} (h : DvAll K F vs [.int n]) : vs = [.int n] := by
  cases h with
  | cons h1 h2 => cases h2; cases h1; rfl
theorem two_int {K : PySem.W.Frag} {F : Hp} {vs : List V} {n m : Int} (h : DvAll K F vs [.int n, .int m]) : vs = [.int n, .int m] := by
  cases h with
  | cons h1 h2 =>
    cases h2 with
    | cons h2 h3 => cases h3; cases h1; cases h2; rfl
theorem di_range1 {a : Expr} (hm : X.mg "range" = none) (ha : DA X [a] l) (hg : Gl X "range" := by rfl) (hs : starEach [a] X.env = [(false, eval a X.env)] := by rfl) : DI X tg (.Call (.Name "range" p) [a] [] pos) (l_range1 l) := by
  refine PI.imp (pi_range1 hg hm ha hs) fun σ H R ⟨ρ, F, ds, E, hf, q⟩ => ?_
  unfold l_range1 at hf
  split at hf
  · rename_i n e
    split at hf
    · rename_i hn
      cases hf
      have hsl := sizeLine_eq
      refine ⟨ρ, F, _, E, e, fun vs F1 H1 x1 hv => ⟨n, one_int hv, by omega, by omega, q _ F1 H1 x1 (dlv_range (by omega))⟩⟩
    · cases hf
  · cases hf
theorem di_range2 {a b : Expr} (hm : X.mg "range" = none) (ha : DA X [a, b] l) (hg : Gl X "range" := by rfl) (hs : starEach [a, b] X.env = [(false, eval a X.env), (false, eval b X.env)] := by rfl) (hs2 : starEach [b] X.env = [(false, eval b X.env)] := by rfl) :
    DI X tg (.Call (.Name "range" p) [a, b] [] pos) (l_range2 l) := by
  refine PI.imp (pi_range2 hg hm ha hs hs2) fun σ H R ⟨ρ, F, ds, E, hf, q⟩ => ?_
  unfold l_range2 at hf
  split at hf
  · rename_i n m e
    split at hf
    · rename_i hn
      cases hf
      have hsl := sizeLine_eq
      refine ⟨ρ, F, _, E, e, fun vs F1 H1 x1 hv => ⟨n, m, two_int hv, by omega, q _ F1 H1 x1 (dlv_range (by omega))⟩⟩
    · cases hf
  · cases hf
theorem dlv_enum {K : PySem.W.Frag} {F : Hp} {a : Addr} {xs : List V} {ds : List Da} (h1 : F a = some (.lst xs)) (hz : xs.length ≤ sizeLine) (h2 : DvAll K F xs ds) : Dlv K (Ite K a) F (enumD 0 ds) where
  size := by rw [enumD_len, ← h2.len]; exact hz
  go := fun i F' H' s1 s2 hi => by
    have hx : i < xs.length := by rw [h2.len, ← enumD_len ds 0]; exact hi
    exact ⟨xs, xs[i], SqL.of (s2 _ _ (s1 _ _ h1)), List.getElem?_eq_getElem hx⟩
  stop := fun F' H' s1 s2 => ⟨xs, SqL.of (s2 _ _ (s1 _ _ h1)), by rw [h2.len, enumD_len]; exact Nat.le_refl _⟩
  yld := fun i F' H' x H'' s1 s2 hi hy => by
    obtain ⟨T, v, rfl, nT, rfl, hy⟩ := hy
    have e := hy xs (SqL.of (s2 _ _ (s1 _ _ h1)))
    obtain ⟨d, e1, e2⟩ := h2.get e
    have x1 := Ext.new (o := .tup [.int (i : Nat), v]) s2 nT
    exact ⟨_, _, by rw [enumD_get ds 0 i d e1, Nat.zero_add], x1, .tup upd_same (by show 2 ≤ sizeLine; decide) (.cons (.int _) (.cons ((e2.up s1).up x1.ff) .nil))⟩
theorem di_enum {a : Expr} (hm : X.mg "enumerate" = none) (ha : DA X [a] l) (hg : Gl X "enumerate" := by rfl) (hs : starEach [a] X.env = [(false, eval a X.env)] := by rfl) :
    DI X (.Tuple elts kk tpos) (.Call (.Name "enumerate" p) [a] [] pos) (l_enum l) := by
  refine PI.imp (pi_enum hg hm ha hs) fun σ H R ⟨ρ, F, ds, E, hf, q⟩ => ?_
  unfold l_enum at hf
  split at hf
  · rename_i xs e
    cases hf
    exact ⟨ρ, F, _, E, e, fun vs F1 H1 x1 hv => by
      cases hv with
      | cons hv hn =>
        cases hn
        cases hv with
        | lst h1 hz h2 => exact ⟨_, _, rfl, SqL.of (x1.fh _ _ h1), q _ F1 H1 x1 (dlv_enum h1 hz h2)⟩⟩
  · cases hf
theorem zipD_get {ds es : List Da} {i : Nat} {d e : Da} (h1 : ds[i]? = some d) (h2 : es[i]? = some e) : (zipD ds es)[i]? = some (.tuple [d, e]) := by
  unfold zipD
  rw [List.getElem?_zipWith, h1, h2]
theorem zipD_len (ds es : List Da) : (zipD ds es).length = min ds.length es.length := by simp [zipD]
theorem dlv_zip {K : PySem.W.Frag} {F : Hp} {a b : Addr} {xs ys : List V} {ds es : List Da} (h1 : F a = some (.lst xs)) (hz : xs.length ≤ sizeLine) (h2 : DvAll K F xs ds) (g1 : F b = some (.lst ys)) (g2 : DvAll K F ys es) : Dlv K (Itz K a b) F (zipD ds es) where
  size := by rw [zipD_len, ← h2.len]; exact Nat.le_trans (Nat.min_le_left _ _) hz
  go := fun i F' H' s1 s2 hi => by
    rw [zipD_len] at hi
    have hx : i < xs.length := by rw [h2.len]; omega
    have hy : i < ys.length := by rw [g2.len]; omega
    exact ⟨xs, ys, xs[i], ys[i], SqL.of (s2 _ _ (s1 _ _ h1)), SqL.of (s2 _ _ (s1 _ _ g1)), List.getElem?_eq_getElem hx, List.getElem?_eq_getElem hy⟩
  stop := fun F' H' s1 s2 => ⟨xs, ys, SqL.of (s2 _ _ (s1 _ _ h1)), SqL.of (s2 _ _ (s1 _ _ g1)), by rw [h2.len, g2.len, zipD_len]; omega⟩
  yld := fun i F' H' x H'' s1 s2 hi hy => by
    obtain ⟨T, v, w, rfl, nT, rfl, hv, hw⟩ := hy
    have e := hv xs (SqL.of (s2 _ _ (s1 _ _ h1)))
    have e' := hw ys (SqL.of (s2 _ _ (s1 _ _ g1)))
    obtain ⟨d, e1, e2⟩ := h2.get e
    obtain ⟨d', e1', e2'⟩ := g2.get e'
    have x1 := Ext.new (o := .tup [v, w]) s2 nT
    exact ⟨_, _, zipD_get e1 e1', x1, .tup upd_same (by show 2 ≤ sizeLine; decide) (.cons ((e2.up s1).up x1.ff) (.cons ((e2'.up s1).up x1.ff) .nil))⟩
theorem di_zip {a b : Expr} (hm : X.mg "zip" = none) (ha : DA X [a, b] l) (hg : Gl X "zip" := by rfl)
    (hs : starEach [a, b] X.env = (false, eval a X.env) :: starEach [b] X.env := by rfl) (hpl : (backTo pos (starEach [b] X.env)).any (·.1) = false := by rfl) :
    DI X (.Tuple elts kk tpos) (.Call (.Name "zip" p) [a, b] [] pos) (l_zip l) := by
  refine PI.imp (pi_zip hg hm ha hs hpl) fun σ H R ⟨ρ, F, ds, E, hf, q⟩ => ?_
  unfold l_zip at hf
  split at hf
  · rename_i xs ys e
    cases hf
    exact ⟨ρ, F, _, E, e, fun vs F1 H1 x1 hv => by
      cases hv with
      | cons hv hn =>
        cases hn with
        | cons hw hn =>
          cases hn
          cases hv with
          | lst h1 hz h2 =>
            cases hw with
            | lst g1 gz g2 => exact ⟨_, _, _, _, rfl, SqL.of (x1.fh _ _ h1), SqL.of (x1.fh _ _ g1), q _ F1 H1 x1 (dlv_zip h1 hz h2 g1 g2)⟩⟩
  · cases hf
end

/-! ### slots set -/
theorem EnvO.set {K : PySem.W.Frag} {own : Nat → List Addr} {ρ : DEnv} {σ : St} {F H : Hp} (h : EnvO K own ρ σ F H) (i : Nat) {e : Ent} {s : Option V} {as : List Addr} (he : EntOk K F H e s as) (h1 : ∀ a ∈ as, F a = none ∧ ∃ xs, H a = some (.lst xs)) (h2 : ∀ j a, j ≠ i → a ∈ own j → a ∉ as) :
    EnvO K (fun j => if j = i then as else own j) (ρ.set i e) (σ.set i s) F H where
  sub := h.sub
  len := by simp [h.len]
  ent := fun j e' s' q1 q2 => by
    by_cases hj : j = i
    · subst hj
      rw [if_pos rfl]
      by_cases hl : j < ρ.length
      · rw [List.getElem?_set_self hl] at q1
        rw [List.getElem?_set_self (by rw [← h.len]; exact hl)] at q2
        cases q1; cases q2
        exact he
      · rw [List.getElem?_eq_none (by simpa using hl)] at q1; cases q1
    · rw [if_neg hj]
      rw [List.getElem?_set_ne (Ne.symm hj)] at q1 q2
      exact h.ent j e' s' q1 q2
  out := fun j a ha => by
    by_cases hj : j = i
    · subst hj; rw [if_pos rfl] at ha; exact h1 a ha
    · rw [if_neg hj] at ha; exact h.out j a ha
  nt := h.nt
  sep := fun j k a ha hb => by
    by_cases hj : j = i
    · by_cases hk : k = i
      · rw [hj, hk]
      · rw [if_pos hj] at ha; rw [if_neg hk] at hb
        exact absurd ha (h2 k a hk hb)
    · by_cases hk : k = i
      · rw [if_neg hj] at ha; rw [if_pos hk] at hb
        exact absurd hb (h2 j a hj ha)
      · rw [if_neg hj] at ha; rw [if_neg hk] at hb
        exact h.sep j k a ha hb
theorem EnvO.setIm {K : PySem.W.Frag} {own : Nat → List Addr} {ρ : DEnv} {σ : St} {F H : Hp} (h : EnvO K own ρ σ F H) (i : Nat) {v : V} {d : Da} (hv : Dv K F v d) :
    EnvO K (fun j => if j = i then [] else own j) (ρ.set i (.im d)) (σ.set i (some v)) F H :=
  h.set i (.im hv) (fun _ z => nomatch z) (fun _ _ _ _ z => nomatch z)
theorem EnvO.setNo {K : PySem.W.Frag} {own : Nat → List Addr} {ρ : DEnv} {σ : St} {F H : Hp} (h : EnvO K own ρ σ F H) (i : Nat) (s : Option V) :
    EnvO K (fun j => if j = i then [] else own j) (ρ.set i .no) (σ.set i s) F H :=
  h.set i .no (fun _ z => nomatch z) (fun _ _ _ _ z => nomatch z)
theorem EnvR.setIm {K : PySem.W.Frag} {ρ : DEnv} {σ : St} {F H : Hp} (h : EnvR K ρ σ F H) (i : Nat) {v : V} {d : Da} (hv : Dv K F v d) : EnvR K (ρ.set i (.im d)) (σ.set i (some v)) F H := let ⟨_, h⟩ := h; ⟨_, h.setIm i hv⟩
def wipeE (ρ : DEnv) : List Nat → DEnv
  | [] => ρ
  | v :: vs => (wipeE ρ vs).set v .no
theorem EnvR.wipe {K : PySem.W.Frag} {ρ : DEnv} {σ : St} {F H : Hp} (h : EnvR K ρ σ F H) : ∀ vs : List Nat, EnvR K (wipeE ρ vs) (wipe σ vs) F H
  | [] => h
  | v :: vs => let ⟨_, q⟩ := EnvR.wipe h vs; ⟨_, q.setNo v none⟩

/-! ### targets -/
inductive Tg where
  | one (i : Nat)
  | tup (is : List Nat)
def gs : List Nat → TGs
  | [] => gNil
  | i :: r => gCons (gName i) (gs r)
def gOf (K : PySem.W.Frag) : Tg → TG
  | .one i => gName i
  | .tup is => gTup K is.length (gs is)
def setAll : List Nat → List V → St → St
  | i :: r, v :: vs, σ => setAll r vs (σ.set i (some v))
  | _, _, σ => σ
def bindL' : List Nat → List Da → DEnv → DEnv
  | i :: r, d :: ds, ρ => bindL' r ds (ρ.set i (.im d))
  | _, _, ρ => ρ
def bindT : Tg → Da → DEnv → Option DEnv
  | .one i, d, ρ => some (ρ.set i (.im d))
  | .tup is, .tuple ds, ρ => if ds.length = is.length then some (bindL' is ds ρ) else none
  | _, _, _ => none
def Tg.slots : Tg → List Nat
  | .one i => [i]
  | .tup is => is
theorem gs_read : ∀ (is : List Nat) (vs : List V) (σ : St) (H : Hp) (Q : St → Hp → Prop), vs.length = is.length → Q (setAll is vs σ) H → gs is vs σ H Q
  | [], [], _, _, _, _, q => ⟨rfl, q⟩
  | i :: r, v :: vs, σ, H, Q, h, q => ⟨v, vs, rfl, gs_read r vs (σ.set i (some v)) H Q (by simpa using h) q⟩
theorem bindL_env {K : PySem.W.Frag} {F H : Hp} : ∀ (is : List Nat) (vs : List V) (ds : List Da) (ρ : DEnv) (σ : St), DvAll K F vs ds → EnvR K ρ σ F H → EnvR K (bindL' is ds ρ) (setAll is vs σ) F H
  | [], _, _, _, _, _, h => by unfold bindL' setAll; exact h
  | i :: r, _, _, _, _, .nil, h => by unfold bindL' setAll; exact h
  | i :: r, _, _, ρ, σ, .cons h1 h2, h => by
    show EnvR K (bindL' r _ _) (setAll r _ _) F H
    exact bindL_env r _ _ _ _ h2 (h.setIm i h1)
theorem wipe_comm {σ : St} {i : Nat} {x : Option V} : ∀ {vs : List Nat}, i ∈ vs → wipe (σ.set i x) vs = wipe σ vs
  | v :: vs, h => by
    unfold wipe
    by_cases hi : i ∈ vs
    · rw [wipe_comm hi]
    · have e : i = v := by
        rcases List.mem_cons.mp h with e | e
        · exact e
        · exact absurd e hi
      subst e
      have aux : ∀ (ws : List Nat), i ∉ ws → wipe (σ.set i x) ws = (wipe σ ws).set i x := by
        intro ws
        induction ws with
        | nil => intro _; rfl
        | cons w ws ih =>
          intro hn
          unfold wipe
          rw [ih (fun z => hn (List.mem_cons_of_mem _ z)), List.set_comm _ _ (fun z => hn (by rw [z]; exact List.mem_cons_self))]
      rw [aux vs hi, List.set_set]
theorem wipe_setAll {vs : List Nat} : ∀ (is : List Nat) (ws : List V) (σ : St), (∀ i ∈ is, i ∈ vs) → wipe (setAll is ws σ) vs = wipe σ vs
  | [], _, _, _ => by unfold setAll; rfl
  | i :: r, [], _, _ => by unfold setAll; rfl
  | i :: r, w :: ws, σ, h => by
    show wipe (setAll r ws (σ.set i (some w))) vs = wipe σ vs
    rw [wipe_setAll r ws _ fun j hj => h j (List.mem_cons_of_mem _ hj), wipe_comm (h i List.mem_cons_self)]
theorem wipe_wipe {σ : St} : ∀ {vs ws : List Nat}, (∀ i ∈ ws, i ∈ vs) → wipe (wipe σ ws) vs = wipe σ vs
  | _, [], _ => rfl
  | vs, w :: ws, h => by
    show wipe ((wipe σ ws).set w none) vs = wipe σ vs
    rw [wipe_comm (h w List.mem_cons_self), wipe_wipe fun i hi => h i (List.mem_cons_of_mem _ hi)]
/-- a target takes an item -/
theorem g_read {K : PySem.W.Frag} {t : Tg} {v : V} {d : Da} {ρ ρ' : DEnv} {σ : St} {F H : Hp} {vs : List Nat} {Q : St → Hp → Prop} (E : EnvR K ρ σ F H) (hv : Dv K F v d) (hb : bindT t d ρ = some ρ') (k : ∀ σ', EnvR K ρ' σ' F H → ((∀ i ∈ t.slots, i ∈ vs) → wipe σ' vs = wipe σ vs) → Q σ' H) : gOf K t v σ H Q := by
  cases t with
  | one i =>
    cases hb
    exact k _ (E.setIm i hv) fun h => wipe_comm (h i List.mem_cons_self)
  | tup is =>
    cases d with
    | tuple ds =>
      have hb : (if ds.length = is.length then some (bindL' is ds ρ) else none) = some ρ' := hb
      split at hb
      · rename_i hl
        cases hb
        cases hv with
        | tup h1 hz h2 =>
          refine ⟨_, _, rfl, SqT.of (E.sub _ _ h1), by rw [h2.len]; exact hl, gs_read is _ _ _ _ (by rw [h2.len]; exact hl) (k _ (bindL_env is _ _ _ _ h2 E) fun h => wipe_setAll is _ _ h)⟩
      · cases hb
    | _ => cases hb

/-! ### comprehensions -/
def tests : List Tf → Tf
  | [] => fun _ => some true
  | c :: r => fun ρ => match c ρ with
    | some true => tests r ρ
    | some false => some false
    | none => none
def lcGo (t : Tg) (c : Tf) (e : Ef) (ρ : DEnv) : List Da → Option (List Da)
  | [] => some []
  | d :: ds => match bindT t d ρ with
    | none => none
    | some ρ1 => match c ρ1 with
      | none => none
      | some false => lcGo t c e ρ ds
      | some true => match e ρ1 with
        | none => none
        | some y => (lcGo t c e ρ ds).map fun r => y :: r
def l_lc (it : Lf) (t : Tg) (c : Tf) (e : Ef) (vs : List Nat) : Lf := fun ρ => match it ρ with
  | none => none
  | some ds => lcGo t c e (wipeE ρ vs) ds
/-- a new list -/
def tN (K : PySem.W.Frag) (f : Lf) : TE := fun σ H Q => ∃ ρ F ds, EnvR K ρ σ F H ∧ f ρ = some ds ∧ ∀ p xs F' H', Ext F H F' H' → F' p = none → H p = none → H' p = some (.lst xs) → xs.length ≤ sizeLine → DvAll K F' xs ds → Q (.ref p) H'
abbrev DN (X : Cx) (e : Expr) (f : Lf) : Prop := PE X e (tN X.K f)
theorem Ext.freeze {F0 H0 F H : Hp} {p : Addr} {o : HO} (x : Ext F0 H0 F H) (h0 : H0 p = none) (hF : F p = none) (hH : H p = some o) (no : NoTbl o := by intro _ z; cases z) : Ext F0 H0 (upd F p o) H where
  tf := fun a ps e => by
    by_cases q : a = p
    · subst q; rw [upd_same] at e; cases e; exact absurd rfl (no ps)
    · rw [upd_ne q] at e; exact x.tf a ps e
  hh := x.hh
  ff := fun b u e => by
    have hb : b ≠ p := fun z => by subst z; rw [x.ff _ _ e] at hF; cases hF
    rw [upd_ne hb]; exact x.ff _ _ e
  fh := fun b u e => by
    by_cases q : b = p
    · subst q; rw [upd_same] at e; cases e; exact hH
    · rw [upd_ne q] at e; exact x.fh _ _ e
  nw := fun a u e n => by
    rw [upd_ne (ne_of_none e h0)]; exact x.nw a u e n
theorem same_put {F : Hp} {p : Addr} {o : HO} (h : F p = none) : Same F (upd F p o) := fun b u e => by rw [upd_ne (ne_of_none e h)]; exact e
def e_new (l : Lf) : Ef := fun ρ => (l ρ).map .list
theorem de_new {X : Cx} {e : Expr} {l : Lf} (h : DN X e l) : DE X e (e_new l) := by
  refine PE.imp h fun σ H Q ⟨ρ, F, d, E, hf, q⟩ => ?_
  obtain ⟨ds, h1, rfl⟩ := Option.map_eq_some_iff.mp hf
  exact ⟨ρ, F, ds, E, h1, fun p xs F' H' x hF hH hp hz hv => q _ _ _ (x.freeze hH hF hp) (.lst upd_same hz (hv.up (same_put hF)))⟩
theorem _root_.DD.SameN.trans' {H H' : Hp} {p : Addr} {o : HO} (x : SameN H H') (h0 : H p = none) : SameN H (upd H' p o) :=
  ⟨fun a u n e => by rw [upd_ne (ne_of_none e h0)]; exact x.o a u n e, fun a ps e => by rw [upd_ne (ne_of_none e h0)]; exact x.t a ps e⟩
theorem Ext.put {F0 H0 F H : Hp} {p : Addr} {o : HO} (x : Ext F0 H0 F H) (h0 : H0 p = none) (hF : F p = none) : Ext F0 H0 F (upd H p o) where
  hh := x.hh.trans' h0
  tf := x.tf
  ff := x.ff
  fh := fun b u e => by rw [upd_ne (ne_of_none e hF)]; exact x.fh _ _ e
  nw := x.nw
section
variable {X : Cx} {elt tg iter : Expr} {ifs : List Expr} {scope : Scope} {own : List (Str × Nat)} {pos : Pos} {it : Lf} {t : Tg} {c : Tf} {e : Ef}
theorem lc_read {K : PySem.W.Frag} {vs : List Nat} {σ : St} {H : Hp} {Q : VK} (hvs : ∀ i ∈ t.slots, i ∈ vs) (h : tN K (l_lc it t c e vs) σ H Q) : tLc (tI K it) (gOf K t) (tT K c) (tD K e) vs σ H Q := by
  obtain ⟨ρ, F, ds, E, hf, q⟩ := h
  unfold l_lc at hf
  split at hf
  · cases hf
  rename_i items hit
  refine ⟨ρ, F, items, E, hit, fun J F1 H1 x1 dl D nD => ?_⟩
  have E1 := (E.ext x1).wipe vs
  refine ⟨fun i m H' => m = items.length - i ∧ i ≤ items.length ∧ ∃ F' acc done rest, Ext F1 H1 F' H' ∧ F' D = none ∧ H' D = some (.lst acc) ∧ acc.length ≤ i ∧ DvAll K F' acc done ∧ lcGo t c e (wipeE ρ vs) (items.drop i) = some rest ∧ ds = done ++ rest, ⟨items.length, by simp, Nat.zero_le _, F1, [], [], ds, Ext.out x1.fh nD, x1.fh.free nD, upd_same, Nat.zero_le _, .nil, hf, rfl⟩, ?_⟩
  rintro i m H' ⟨rfl, hi, F', acc, done, rest, xe, hF, hD, hz, hacc, hrest, rfl⟩
  by_cases hlt : i < items.length
  · refine .inr ⟨dl.go i F' H' xe.ff xe.fh hlt, fun H'' => items.length - (i + 1) < items.length - i ∧ ∃ F' acc done rest', Ext F1 H1 F' H'' ∧ F' D = none ∧ H'' D = some (.lst acc) ∧ acc.length ≤ i + 1 ∧ DvAll K F' acc done ∧ lcGo t c e (wipeE ρ vs) (items.drop (i + 1)) = some rest' ∧ _ = done ++ rest', fun H'' ⟨hm, r⟩ => ⟨_, hm, rfl, hlt, r⟩, fun x H'' hy => ?_⟩
    obtain ⟨F2, d, hd, x2, hx⟩ := dl.yld i F' H' x H'' xe.ff xe.fh hlt hy
    have hdrop : items.drop i = d :: items.drop (i + 1) := by
      obtain ⟨h1, h2⟩ := List.getElem?_eq_some_iff.mp hd
      rw [List.drop_eq_getElem_cons h1, h2]
    rw [hdrop] at hrest
    unfold lcGo at hrest
    split at hrest
    · cases hrest
    rename_i ρ1 hb
    have E2 : EnvR K (wipeE ρ vs) (wipe σ vs) F2 H'' := E1.ext (xe.trans x2)
    refine g_read (vs := vs) E2 hx hb fun σ2 E3 hw => ⟨(hw hvs).trans (wipe_wipe fun _ z => z), ?_⟩
    split at hrest
    · cases hrest
    · rename_i hc
      refine ⟨ρ1, F2, false, E3, hc, fun F3 H3 x3 => iteF ⟨by omega, F3, acc, done, rest, (xe.trans x2).trans x3, ?_, ?_, by omega, (hacc.up x2.ff).up x3.ff, hrest, rfl⟩⟩
      · exact x3.nw D _ (x2.hh.lst hD) (x2.nw D _ hD hF)
      · exact x3.hh.lst (x2.hh.lst hD)
    · rename_i hc
      refine ⟨ρ1, F2, true, E3, hc, fun F3 H3 x3 => iteT ?_⟩
      split at hrest
      · cases hrest
      rename_i y hy'
      obtain ⟨r, hr, rfl⟩ := Option.map_eq_some_iff.mp hrest
      refine ⟨ρ1, F3, y, E3.ext x3, hy', fun v F4 H4 x4 hv => ⟨acc, x4.hh.lst (x3.hh.lst (x2.hh.lst hD)), ?_, by omega, F4, acc ++ [v], done ++ [y], r, ?_, ?_, upd_same, ?_, ?_, hr, by simp⟩⟩
      · have := dl.size; omega
      · exact (((xe.trans x2).trans x3).trans x4).put nD (x4.nw D _ (x3.hh.lst (x2.hh.lst hD)) (x3.nw D _ (x2.hh.lst hD) (x2.nw D _ hD hF)))
      · exact x4.nw D _ (x3.hh.lst (x2.hh.lst hD)) (x3.nw D _ (x2.hh.lst hD) (x2.nw D _ hD hF))
      · rw [List.length_append]; simp; exact hz
      · exact (((hacc.up x2.ff).up x3.ff).up x4.ff).append (.one hv)
  · have e : i = items.length := by omega
    subst e
    rw [List.drop_length] at hrest
    cases hrest
    refine .inl ⟨dl.stop F' H' xe.ff xe.fh, ?_⟩
    have hn : H D = none := by
      exact x1.hh.none nD
    exact q D acc F' H' (x1.trans xe) hF hn hD (Nat.le_trans hz dl.size) (by simpa using hacc)
theorem dn_lc (hi : DI X tg iter it) (hvs : ∀ i ∈ t.slots, i ∈ own.map (·.2)) (ok : BlkOk X.N X.env.scope scope own) (hN : X.N.Nodup) (hc : X.calm = true := by rfl)
    (hg : ∀ (s : Shared) (H : Hp) (C : Addr) (cl : List (Str × Addr)) (fp : List Addr), PG (X.blk s H scope (compEnvC scope cl C X.env) fp) tg (gOf X.K t)) (ht : ∀ (s : Shared) (H : Hp) (C : Addr) (cl : List (Str × Addr)) (fp : List Addr), PTs (X.blk s H scope (compEnvC scope cl C X.env) fp) ifs (tT X.K c))
    (he : ∀ (s : Shared) (H : Hp) (C : Addr) (cl : List (Str × Addr)) (fp : List Addr), DE (X.blk s H scope (compEnvC scope cl C X.env) fp) elt e) (hs : ∀ x, foldedSetIterable iter X.env x = pure x := by intro _; rfl) :
    DN X (.ListComp elt [⟨tg, iter, ifs, 0⟩] scope pos) (l_lc it t c e (own.map (·.2))) :=
  PE.imp (pe_lc hc hN hi ok hg ht he hs) fun _ _ _ h => lc_read hvs h
end
section
variable {X : Cx} {a : Expr} {rest : List Expr} {t : Tf}
theorem pts_yes : PTs X [] (tT X.K fun _ => some true) := ⟨fun pins s σ H Q I h => pts_nil.run pins s σ H Q I (by
  obtain ⟨ρ, F, b, E, hf, q⟩ := h
  cases hf
  exact q F H (Ext.refl E.sub))⟩
theorem pts_if (h : DT X a t) : PTs X [a] (tT X.K t) := pts_one h
end
end DD
end

section
set_option Elab.async false
set_option linter.all false
set_option maxRecDepth 100000
set_option maxHeartbeats 2000000
/-! The data layer: statements, loops, defs. -/
namespace DD
open PySem PySem.Spec PyProof.Rows L2

/-! ### since the entry -/
structure ExtG (G : List Addr) (F0 H0 F H : Hp) : Prop where
  hh : ∀ a o, a ∉ G → NoTbl o → H0 a = some o → H a = some o
  ht : ∀ a ps, H0 a = some (.tbl ps) → ∃ ps', H a = some (.tbl ps')
  ff : Same F0 F
  fh : Same F H
  nw : ∀ a o, H0 a = some o → F0 a = none → F a = none
  tf : ∀ a ps, F a = some (.tbl ps) → F0 a = some (.tbl ps)
theorem ExtG.of {G : List Addr} {F0 H0 F H : Hp} (x : Ext F0 H0 F H) : ExtG G F0 H0 F H := ⟨fun a o _ n e => x.hh.o a o n e, x.hh.t, x.ff, x.fh, x.nw, x.tf⟩
theorem ExtG.has {G : List Addr} {F0 H0 F H : Hp} (x : ExtG G F0 H0 F H) {a : Addr} {o : HO} (hg : a ∉ G) (h : H0 a = some o) : ∃ o', H a = some o' := by
  by_cases q : NoTbl o
  · exact ⟨o, x.hh a o hg q h⟩
  · have : ∃ ps, o = .tbl ps := Classical.byContradiction fun z => q fun ps e => z ⟨ps, e⟩
    obtain ⟨ps, rfl⟩ := this
    obtain ⟨ps', h'⟩ := x.ht a ps h
    exact ⟨_, h'⟩
theorem ExtG.ext {G : List Addr} {F0 H0 F H F' H' : Hp} (x : ExtG G F0 H0 F H) (y : Ext F H F' H') (hG : ∀ a ∈ G, ∃ o, H0 a = some o ∧ ∃ xs, H a = some (.lst xs)) : ExtG G F0 H0 F' H' where
  hh := fun a o n t e => y.hh.o _ _ t (x.hh a o n t e)
  ht := fun a ps e => let ⟨_, h1⟩ := x.ht a ps e; y.hh.t a _ h1
  ff := x.ff.trans y.ff
  fh := y.fh
  nw := fun a o e n => by
    by_cases hg : a ∈ G
    · obtain ⟨_, _, o', h'⟩ := hG a hg
      exact y.nw a _ h' (x.nw a o e n)
    · obtain ⟨o', h'⟩ := x.has hg e
      exact y.nw a o' h' (x.nw a o e n)
  tf := fun a ps e => x.tf a ps (y.tf a ps e)
theorem ExtG.nil {F0 H0 F H : Hp} (x : ExtG [] F0 H0 F H) : Ext F0 H0 F H := ⟨⟨fun a o n e => x.hh a o (by simp) n e, x.ht⟩, x.ff, x.fh, x.nw, x.tf⟩

structure EnvA (K : PySem.W.Frag) (G : List Addr) (F0 H0 : Hp) (own : Nat → List Addr) (ρ : DEnv) (σ : St) (F H : Hp) : Prop where
  o : EnvO K own ρ σ F H
  x : ExtG G F0 H0 F H
  g : ∀ a ∈ G, ∃ o, H0 a = some o ∧ ∃ xs, H a = some (.lst xs)
  fr : ∀ i a, a ∈ own i → (H0 a = none ∧ a ∉ G) ∨ (a ∈ G ∧ ∃ m, ρ[i]? = some (.gn m))
  gn : ∀ i m a, ρ[i]? = some (.gn m) → a ∈ own i → a ∈ G
def EnvAt (K : PySem.W.Frag) (G : List Addr) (F0 H0 : Hp) (ρ : DEnv) (σ : St) (F H : Hp) : Prop := ∃ own, EnvA K G F0 H0 own ρ σ F H
section
variable {K : PySem.W.Frag} {G : List Addr} {F0 H0 : Hp} {ρ : DEnv} {σ : St} {F H F' H' : Hp}
theorem EnvAt.r (h : EnvAt K G F0 H0 ρ σ F H) : EnvR K ρ σ F H := let ⟨own, h⟩ := h; ⟨own, h.o⟩
theorem EnvAt.ext (h : EnvAt K G F0 H0 ρ σ F H) (x : Ext F H F' H') : EnvAt K G F0 H0 ρ σ F' H' := let ⟨own, h⟩ := h
  ⟨own, h.o.ext x, h.x.ext x h.g, fun a ha => let ⟨o, h1, o', h2⟩ := h.g a ha; ⟨o, h1, o', x.hh.lst h2⟩, h.fr, h.gn⟩
theorem EnvAt.xg (h : EnvAt K G F0 H0 ρ σ F H) : ExtG G F0 H0 F H := let ⟨_, h⟩ := h; h.x
theorem EnvAt.sub (h : EnvAt K G F0 H0 ρ σ F H) : Same F H := h.r.sub
theorem set_gn {i j : Nat} {e : Ent} {m : List Da} (he : ∀ m, e ≠ .gn m) (h : (ρ.set i e)[j]? = some (.gn m)) : j ≠ i ∧ ρ[j]? = some (.gn m) := by
  by_cases hj : j = i
  · subst hj
    by_cases hl : j < ρ.length
    · rw [List.getElem?_set_self hl] at h; cases h; exact absurd rfl (he m)
    · rw [List.getElem?_eq_none (by simpa using hl)] at h; cases h
  · rw [List.getElem?_set_ne (Ne.symm hj)] at h
    exact ⟨hj, h⟩
theorem set_keep {i j : Nat} {e e' : Ent} (hj : j ≠ i) (h : ρ[j]? = some e) : (ρ.set i e')[j]? = some e := by rw [List.getElem?_set_ne (Ne.symm hj)]; exact h
theorem EnvAt.setIm (h : EnvAt K G F0 H0 ρ σ F H) (i : Nat) {v : V} {d : Da} (hv : Dv K F v d) : EnvAt K G F0 H0 (ρ.set i (.im d)) (σ.set i (some v)) F H := by
  obtain ⟨own, h⟩ := h
  refine ⟨_, h.o.setIm i hv, h.x, h.g, fun j a ha => ?_, fun j m a e ha => ?_⟩
  by_cases hj : j = i
  · rw [if_pos hj] at ha; cases ha
  · rw [if_neg hj] at ha
    rcases h.fr j a ha with q | ⟨q, m, e⟩
    · exact .inl q
    · exact .inr ⟨q, m, set_keep hj e⟩
  · obtain ⟨h1, h2⟩ := set_gn (by intro _ z; cases z) e
    rw [if_neg h1] at ha
    exact h.gn j m a h2 ha
theorem EnvAt.setNo (h : EnvAt K G F0 H0 ρ σ F H) (i : Nat) (s : Option V) : EnvAt K G F0 H0 (ρ.set i .no) (σ.set i s) F H := by
  obtain ⟨own, h⟩ := h
  refine ⟨_, h.o.setNo i s, h.x, h.g, fun j a ha => ?_, fun j m a e ha => ?_⟩
  by_cases hj : j = i
  · rw [if_pos hj] at ha; cases ha
  · rw [if_neg hj] at ha
    rcases h.fr j a ha with q | ⟨q, m, e⟩
    · exact .inl q
    · exact .inr ⟨q, m, set_keep hj e⟩
  · obtain ⟨h1, h2⟩ := set_gn (by intro _ z; cases z) e
    rw [if_neg h1] at ha
    exact h.gn j m a h2 ha
theorem EnvA.ext {own : Nat → List Addr} (h : EnvA K G F0 H0 own ρ σ F H) (x : Ext F H F' H') : EnvA K G F0 H0 own ρ σ F' H' :=
  ⟨h.o.ext x, h.x.ext x h.g, fun a ha => let ⟨o, h1, o', h2⟩ := h.g a ha; ⟨o, h1, o', x.hh.lst h2⟩, h.fr, h.gn⟩
/-- a name holds a list of its own -/
theorem EnvA.setOw {own : Nat → List Addr} (h : EnvA K G F0 H0 own ρ σ F H) (i : Nat) {p : Addr} {xs : List V} {ds : List Da} (hp : H p = some (.lst xs)) (hz : xs.length ≤ sizeLine) (hF : F p = none) (h0 : H0 p = none) (hG : p ∉ G) (hn : ∀ j, p ∉ own j) (hv : DvAll K F xs ds) :
    EnvA K G F0 H0 (fun j => if j = i then [p] else own j) (ρ.set i (.ow ds)) (σ.set i (some (.ref p))) F H := by
  refine ⟨h.o.set i (.ow hp hz hv) (fun a ha => ?_) (fun j a hj ha hb => ?_), h.x, h.g, fun j a ha => ?_, fun j m a e ha => ?_⟩
  · have e : a = p := by simpa using ha
    subst e; exact ⟨hF, xs, hp⟩
  · have e : a = p := by simpa using hb
    subst e; exact hn j ha
  · by_cases hj : j = i
    · rw [if_pos hj] at ha
      have e : a = p := by simpa using ha
      subst e; exact .inl ⟨h0, hG⟩
    · rw [if_neg hj] at ha
      rcases h.fr j a ha with q | ⟨q, m, e⟩
      · exact .inl q
      · exact .inr ⟨q, m, set_keep hj e⟩
  · obtain ⟨h1, h2⟩ := set_gn (by intro _ z; cases z) e
    rw [if_neg h1] at ha
    exact h.gn j m a h2 ha
/-- a new object is not of the entry -/
theorem EnvA.fresh {own : Nat → List Addr} (h : EnvA K G F0 H0 own ρ σ F H) {p : Addr} (hp : H p = none) : p ∉ G ∧ H0 p = none ∧ ∀ j, p ∉ own j := by
  have h0 : p ∉ G := fun z => by
    obtain ⟨_, _, o', h'⟩ := h.g p z
    rw [hp] at h'; cases h'
  refine ⟨h0, ?_, fun j z => ?_⟩
  · cases hq : H0 p with
    | none => rfl
    | some o =>
      obtain ⟨o', h'⟩ := h.x.has h0 hq
      rw [h'] at hp; cases hp
  · obtain ⟨_, o, q⟩ := h.o.out j p z
    rw [hp] at q; cases q
theorem EnvAt.bind (is : List Nat) : ∀ (vs : List V) (ds : List Da) (ρ : DEnv) (σ : St), DvAll K F vs ds → EnvAt K G F0 H0 ρ σ F H → EnvAt K G F0 H0 (bindL' is ds ρ) (setAll is vs σ) F H := by
  induction is with
  | nil => intro _ _ _ _ _ h; unfold bindL' setAll; exact h
  | cons i r ih =>
    intro vs ds ρ σ h1 h
    cases h1 with
    | nil => unfold bindL' setAll; exact h
    | cons h1 h2 => exact ih _ _ _ _ h2 (h.setIm i h1)
theorem ga_read {t : Tg} {v : V} {d : Da} {ρ' : DEnv} {Q : St → Hp → Prop} (E : EnvAt K G F0 H0 ρ σ F H) (hv : Dv K F v d) (hb : bindT t d ρ = some ρ') (k : ∀ σ', EnvAt K G F0 H0 ρ' σ' F H → Q σ' H) : gOf K t v σ H Q := by
  cases t with
  | one i => cases hb; exact k _ (E.setIm i hv)
  | tup is =>
    cases d with
    | tuple ds =>
      have hb : (if ds.length = is.length then some (bindL' is ds ρ) else none) = some ρ' := hb
      split at hb
      · rename_i hl
        cases hb
        cases hv with
        | tup h1 hz h2 =>
          refine ⟨_, _, rfl, SqT.of (E.sub _ _ h1), by rw [h2.len]; exact hl, gs_read is _ _ _ _ (by rw [h2.len]; exact hl) (k _ (EnvAt.bind is _ _ _ _ h2 E))⟩
      · cases hb
    | _ => cases hb
end

/-! ### statements as functions of data -/
inductive Fl where
  | nx (ρ : DEnv)
  | rt (d : Da) (ρ : DEnv)
  | bk (ρ : DEnv)
  | ct (ρ : DEnv)
abbrev Sf := DEnv → Option Fl
def flPost (K : PySem.W.Frag) (G : List Addr) (F0 H0 : Hp) (F : Hp) (D : Ends) : Fl → Prop
  | .nx ρ => ∀ σ F' H', Same F F' → EnvAt K G F0 H0 ρ σ F' H' → D.nx σ H'
  | .rt d ρ => ∀ v σ F' H', Same F F' → EnvAt K G F0 H0 ρ σ F' H' → Dv K F' v d → D.rt v H'
  | .bk ρ => ∀ σ F' H', Same F F' → EnvAt K G F0 H0 ρ σ F' H' → D.bk σ H'
  | .ct ρ => ∀ σ F' H', Same F F' → EnvAt K G F0 H0 ρ σ F' H' → D.ct σ H'
def tS (K : PySem.W.Frag) (G : List Addr) (F0 H0 : Hp) (f : Sf) : TS := fun D σ H => ∃ ρ F r, EnvAt K G F0 H0 ρ σ F H ∧ f ρ = some r ∧ flPost K G F0 H0 F D r
abbrev SE (X : Cx) (st : Stmt) (f : Sf) : Prop := ∀ G F0 H0, PS X st (tS X.K G F0 H0 f)
abbrev SEs (X : Cx) (st : List Stmt) (f : Sf) : Prop := ∀ G F0 H0, PSs X st (tS X.K G F0 H0 f)
theorem flPost.up {K : PySem.W.Frag} {G : List Addr} {F0 H0 F F1 : Hp} {D : Ends} {r : Fl} (h : flPost K G F0 H0 F D r) (s : Same F F1) : flPost K G F0 H0 F1 D r := by
  cases r with
  | nx ρ => exact fun σ F' H' s' E => h σ F' H' (s.trans s') E
  | rt d ρ => exact fun v σ F' H' s' E hv => h v σ F' H' (s.trans s') E hv
  | bk ρ => exact fun σ F' H' s' E => h σ F' H' (s.trans s') E
  | ct ρ => exact fun σ F' H' s' E => h σ F' H' (s.trans s') E

def s_nil : Sf := fun ρ => some (.nx ρ)
def s_seq (f g : Sf) : Sf := fun ρ => match f ρ with
  | some (.nx ρ') => g ρ'
  | r => r
section
variable {X : Cx} {st : Stmt} {rest : List Stmt} {f g : Sf} {e : Expr} {fe : Ef} {l : Lf} {pos : Pos}
theorem ses_nil : SEs X [] s_nil := fun G F0 H0 => PSs.imp pss_nil fun D σ H ⟨ρ, F, r, E, hf, q⟩ => by
  cases hf
  exact q σ F H (Same.refl _) E
theorem ses_cons (h1 : SE X st f) (h2 : SEs X rest g) : SEs X (st :: rest) (s_seq f g) := fun G F0 H0 => by
  refine PSs.imp (pss_cons (h1 G F0 H0) (h2 G F0 H0)) fun D σ H ⟨ρ, F, r, E, hf, q⟩ => ?_
  unfold s_seq at hf
  split at hf
  · rename_i ρ' e
    exact ⟨ρ, F, _, E, e, fun σ' F' H' s E' => ⟨ρ', F', r, E', hf, q.up s⟩⟩
  · rename_i r' hn
    refine ⟨ρ, F, r, E, hf, ?_⟩
    cases r with
    | nx ρ' => exact absurd hf (by intro z; exact hn ρ' z)
    | rt d ρ' => exact q
    | bk ρ' => exact q
    | ct ρ' => exact q
theorem ses_one (h1 : SE X st f) : SEs X [st] f := fun G F0 H0 => PSs.imp (pss_one (h1 G F0 H0)) fun _ _ _ h => h
def s_asg (i : Nat) (fe : Ef) : Sf := fun ρ => (fe ρ).map fun d => .nx (ρ.set i (.im d))
theorem se_asg {i : Nat} {x : Str} {pos' : Pos} (hN : X.N.Nodup) (he : DE X e fe) (hi : X.N[i]? = some x := by rfl) (hx : Loc X.env.scope x := by first | exact Or.inl rfl | exact Or.inr rfl)
    (hs : swapsWith e (some (.Name x pos')) pos.line X.env = pure false := by rfl) (hf : X.fn x = true ∨ X.env.scope.names.lookup x = some .local := by first | exact .inl rfl | exact .inr rfl) : SE X (.Assign [.Name x pos'] e pos) (s_asg i fe) := fun G F0 H0 => by
  refine PS.imp (ps_set hN hi hx he hs hf) fun D σ H ⟨ρ, F, r, E, hf, q⟩ => ?_
  obtain ⟨d, h1, rfl⟩ := Option.map_eq_some_iff.mp hf
  exact ⟨ρ, F, d, E.r, h1, fun v F' H' x hv => q _ F' H' x.ff ((E.ext x).setIm i hv)⟩
/-- a comprehension given to a local name on its line -/
theorem se_asgLc {i : Nat} {y : Str} {py : Pos} {elt tg iter : Expr} {ifs : List Expr} {scope : Scope} {own : List (Str × Nat)} {spos : Pos} {it : Lf} {t : Tg} {c : Tf} {ee : Ef} (hN : X.N.Nodup) (hi : DI X tg iter it) (hvs : ∀ i ∈ t.slots, i ∈ own.map (·.2)) (ok : BlkOk X.N X.env.scope scope own)
    (hg : ∀ (s : Shared) (H : Hp) (C : Addr) (cl : List (Str × Addr)) (fp : List Addr), PG (X.blk s H scope (compEnvC scope cl C X.env) fp) tg (gOf X.K t)) (ht : ∀ (s : Shared) (H : Hp) (C : Addr) (cl : List (Str × Addr)) (fp : List Addr), PTs (X.blk s H scope (compEnvC scope cl C X.env) fp) ifs (tT X.K c))
    (he : ∀ (s : Shared) (H : Hp) (C : Addr) (cl : List (Str × Addr)) (fp : List Addr), DE (X.blk s H scope (compEnvC scope cl C X.env) fp) elt ee)
    (hsw : swapsWith (.ListComp elt [⟨tg, iter, ifs, 0⟩] scope pos) (some (.Name y py)) spos.line X.env = pure true)
    (hy : X.N[i]? = some y := by rfl) (hyl : X.env.scope.names.lookup y = some .local := by rfl) (hc : X.calm = true := by rfl) (hs : ∀ x, foldedSetIterable iter X.env x = pure x := by intro _; rfl) :
    SE X (.Assign [.Name y py] (.ListComp elt [⟨tg, iter, ifs, 0⟩] scope pos) spos) (s_asg i (e_new (l_lc it t c ee (own.map (·.2))))) := fun G F0 H0 => by
  refine PS.imp (ps_setLc (te := tD X.K ee) hc hN hy hyl hsw hi ok hg ht he hs) fun D σ H ⟨ρ, F, r, E, hf, q⟩ => ?_
  obtain ⟨d, h1, rfl⟩ := Option.map_eq_some_iff.mp hf
  obtain ⟨ds, h2, rfl⟩ := Option.map_eq_some_iff.mp h1
  refine lc_read hvs ⟨ρ, F, ds, E.r, h2, fun p xs F' H' x hF hH hp hz hv => ?_⟩
  have y := x.freeze hH hF hp
  exact q _ _ H' y.ff ((E.ext y).setIm i (.lst upd_same hz (hv.up (same_put hF))))
/-- a new list given to a name, as its own -/
def s_own (i : Nat) (l : Lf) : Sf := fun ρ => (l ρ).map fun ds => .nx (ρ.set i (.ow ds))
theorem se_own {i : Nat} {x : Str} {pos' : Pos} (hN : X.N.Nodup) (he : DN X e l) (hi : X.N[i]? = some x := by rfl) (hx : Loc X.env.scope x := by first | exact Or.inl rfl | exact Or.inr rfl)
    (hs : swapsWith e (some (.Name x pos')) pos.line X.env = pure false := by rfl) (hf : X.fn x = true ∨ X.env.scope.names.lookup x = some .local := by first | exact .inl rfl | exact .inr rfl) : SE X (.Assign [.Name x pos'] e pos) (s_own i l) := fun G F0 H0 => by
  refine PS.imp (ps_set hN hi hx he hs hf) fun D σ H ⟨ρ, F, r, E, hf, q⟩ => ?_
  obtain ⟨ds, h1, rfl⟩ := Option.map_eq_some_iff.mp hf
  refine ⟨ρ, F, ds, E.r, h1, fun p xs F' H' x hF hH hp hz hv => q _ F' H' x.ff ?_⟩
  obtain ⟨own, A⟩ := E
  obtain ⟨g1, g2, g3⟩ := A.fresh hH
  exact ⟨_, (A.ext x).setOw i hp hz hF g2 g1 g3 hv⟩
end
end DD
end

section
set_option Elab.async false
set_option linter.all false
set_option maxRecDepth 100000
set_option maxHeartbeats 2000000
/-! The data layer: further statements, loops, defs. -/
namespace DD
open PySem PySem.Spec PyProof.Rows L2

theorem EntOk.put {K : PySem.W.Frag} {F H : Hp} {e : Ent} {s : Option V} {as : List Addr} {a : Addr} {o : HO} (h : EntOk K F H e s as) (hn : a ∉ as) : EntOk K F (upd H a o) e s as := by
  cases h with
  | no => exact .no
  | im h => exact .im h
  | ow h1 hz h2 => exact .ow (by rw [upd_ne (fun z => hn (by simp [z]))]; exact h1) hz h2
  | gn h1 hz h2 => exact .gn (by rw [upd_ne (fun z => hn (by simp [z]))]; exact h1) hz h2
theorem EntOk.up {K : PySem.W.Frag} {F F' H : Hp} {e : Ent} {s : Option V} {as : List Addr} (h : EntOk K F H e s as) (q : Same F F') : EntOk K F' H e s as := by
  cases h with
  | no => exact .no
  | im h => exact .im (h.up q)
  | ow h1 hz h2 => exact .ow h1 hz (h2.up q)
  | gn h1 hz h2 => exact .gn h1 hz (h2.up q)
section
variable {K : PySem.W.Frag} {G : List Addr} {F0 H0 : Hp} {ρ : DEnv} {σ : St} {F H F' H' : Hp} {own : Nat → List Addr}
theorem EnvA.at {i : Nat} {e : Ent} (h : EnvA K G F0 H0 own ρ σ F H) (hi : ρ[i]? = some e) : ∃ s, σ[i]? = some s ∧ EntOk K F H e s (own i) := by
  have h1 : i < ρ.length := (List.getElem?_eq_some_iff.mp hi).1
  have h2 : i < σ.length := by rw [← h.o.len]; exact h1
  exact ⟨_, List.getElem?_eq_getElem h2, h.o.ent i e _ hi (List.getElem?_eq_getElem h2)⟩
theorem EnvA.ow {i : Nat} {ds : List Da} (h : EnvA K G F0 H0 own ρ σ F H) (hi : ρ[i]? = some (.ow ds)) : ∃ a xs, σ[i]? = some (some (.ref a)) ∧ own i = [a] ∧ H a = some (.lst xs) ∧ xs.length ≤ sizeLine ∧ DvAll K F xs ds ∧ F a = none ∧ H0 a = none ∧ a ∉ G := by
  obtain ⟨s, hs, e⟩ := h.at hi
  generalize ho : own i = as at e
  cases e with
  | ow h1 hz h2 =>
    rename_i a xs
    have ha : a ∈ own i := by rw [ho]; exact List.mem_singleton.mpr rfl
    rcases h.fr i a ha with q | ⟨_, m, e⟩
    · exact ⟨a, xs, hs, rfl, h1, hz, h2, (h.o.out i a ha).1, q.1, q.2⟩
    · rw [hi] at e; cases e
/-- a name's own list changes -/
theorem EnvA.put {i : Nat} {a : Addr} {xs' : List V} {ds ds' : List Da} (h : EnvA K G F0 H0 own ρ σ F H) (hi : ρ[i]? = some (.ow ds)) (ha : σ[i]? = some (some (.ref a))) (hz : xs'.length ≤ sizeLine) (hv : DvAll K F xs' ds') :
    EnvA K G F0 H0 own (ρ.set i (.ow ds')) σ F (upd H a (.lst xs')) := by
  obtain ⟨b, xs, hs, ho, h1, _, h2, hF, h0, hG⟩ := h.ow hi
  rw [ha] at hs; cases hs
  refine ⟨⟨fun c u e => ?_, by simpa using h.o.len, fun j e s q1 q2 => ?_, fun j c hc => ?_, h.o.nt, h.o.sep⟩, ⟨fun c o n t e => ?_, fun c ps e => ?_, h.x.ff, fun c u e => ?_, h.x.nw, h.x.tf⟩, fun c hc => ?_, fun j c hc => ?_, fun j m c e hc => ?_⟩
  · rw [upd_ne (ne_of_none e hF)]; exact h.o.sub _ _ e
  · by_cases hj : j = i
    · subst hj
      have hl : j < ρ.length := (List.getElem?_eq_some_iff.mp hi).1
      rw [List.getElem?_set_self hl] at q1
      cases q1
      rw [ha] at q2; cases q2
      rw [ho]
      exact .ow upd_same hz hv
    · rw [List.getElem?_set_ne (Ne.symm hj)] at q1
      exact (h.o.ent j e s q1 q2).put fun z => hj (h.o.sep j i a z (by rw [ho]; exact List.mem_singleton.mpr rfl))
  · obtain ⟨q1, o, q2⟩ := h.o.out j c hc
    refine ⟨q1, ?_⟩
    by_cases hca : c = a
    · subst hca; exact ⟨_, upd_same⟩
    · exact ⟨o, by rw [upd_ne hca]; exact q2⟩
  · rw [upd_ne (ne_of_none e h0)]; exact h.x.hh c o n t e
  · rw [upd_ne (ne_of_none e h0)]; exact h.x.ht c ps e
  · rw [upd_ne (ne_of_none e hF)]; exact h.x.fh _ _ e
  · obtain ⟨o, q1, o', q2⟩ := h.g c hc
    exact ⟨o, q1, o', by rw [upd_ne (ne_of_none q1 h0)]; exact q2⟩
  · rcases h.fr j c hc with q | ⟨q, m, e⟩
    · exact .inl q
    · refine .inr ⟨q, m, set_keep (fun hj => ?_) e⟩
      rw [hj, hi] at e; cases e
  · exact h.gn j m c (set_gn (by intro _ z; cases z) e).2 hc
/-- a name's own list is left as it is from now on -/
theorem EnvA.freeze {i : Nat} {a : Addr} {xs : List V} {ds : List Da} (h : EnvA K G F0 H0 own ρ σ F H) (hi : ρ[i]? = some (.ow ds)) (ha : σ[i]? = some (some (.ref a))) (hx : H a = some (.lst xs)) :
    EnvA K G F0 H0 (fun j => if j = i then [] else own j) (ρ.set i (.im (.list ds))) σ (upd F a (.lst xs)) H ∧ Same F (upd F a (.lst xs)) ∧ Dv K (upd F a (.lst xs)) (.ref a) (.list ds) := by
  obtain ⟨b, xs', hs, ho, h1, hz, h2, hF, h0, hG⟩ := h.ow hi
  rw [ha] at hs; cases hs
  rw [hx] at h1; cases h1
  have sm : Same F (upd F a (.lst xs)) := same_put hF
  have hd : Dv K (upd F a (.lst xs)) (.ref a) (.list ds) := .lst upd_same hz (h2.up sm)
  refine ⟨⟨⟨fun c u e => ?_, by simpa using h.o.len, fun j e s q1 q2 => ?_, fun j c hc => ?_, fun c ps e => ?_, fun j k c h1 h2 => ?_⟩, ⟨h.x.hh, h.x.ht, h.x.ff.trans sm, fun c u e => ?_, fun c o e n => ?_, fun c ps e => ?_⟩, h.g, fun j c hc => ?_, fun j m c e hc => ?_⟩, sm, hd⟩
  · by_cases q : c = a
    · subst q; rw [upd_same] at e; cases e; exact hx
    · rw [upd_ne q] at e; exact h.o.sub _ _ e
  · by_cases hj : j = i
    · subst hj
      have hl : j < ρ.length := (List.getElem?_eq_some_iff.mp hi).1
      rw [List.getElem?_set_self hl] at q1
      cases q1
      rw [ha] at q2; cases q2
      rw [if_pos rfl]
      exact .im hd
    · rw [List.getElem?_set_ne (Ne.symm hj)] at q1
      rw [if_neg hj]
      exact (h.o.ent j e s q1 q2).up sm
  · by_cases hj : j = i
    · rw [if_pos hj] at hc; cases hc
    · rw [if_neg hj] at hc
      obtain ⟨q1, q2⟩ := h.o.out j c hc
      have hca : c ≠ a := fun z => hj (h.o.sep j i c hc (by rw [ho, z]; exact List.mem_singleton.mpr rfl))
      exact ⟨by rw [upd_ne hca]; exact q1, q2⟩
  · by_cases q : c = a
    · subst q; rw [upd_same] at e; cases e
    · rw [upd_ne q] at e; exact h.o.nt c ps e
  · by_cases hj : j = i
    · rw [if_pos hj] at h1; cases h1
    · by_cases hk : k = i
      · rw [if_pos hk] at h2; cases h2
      · rw [if_neg hj] at h1; rw [if_neg hk] at h2
        exact h.o.sep j k c h1 h2
  · by_cases q : c = a
    · subst q; rw [upd_same] at e; cases e; exact hx
    · rw [upd_ne q] at e; exact h.x.fh _ _ e
  · rw [upd_ne (ne_of_none e h0)]; exact h.x.nw c o e n
  · by_cases q : c = a
    · subst q; rw [upd_same] at e; cases e
    · rw [upd_ne q] at e; exact h.x.tf c ps e
  · by_cases hj : j = i
    · rw [if_pos hj] at hc; cases hc
    · rw [if_neg hj] at hc
      rcases h.fr j c hc with q | ⟨q, m, e⟩
      · exact .inl q
      · exact .inr ⟨q, m, set_keep hj e⟩
  · obtain ⟨h1, h2⟩ := set_gn (by intro _ z; cases z) e
    rw [if_neg h1] at hc
    exact h.gn j m c h2 hc
end

section
variable {X : Cx} {st : Stmt} {rest : List Stmt} {f g : Sf} {e : Expr} {fe : Ef} {l : Lf} {pos : Pos}
/-- x.append(e), x of its own -/
def s_app (i : Nat) (fe : Ef) : Sf := fun ρ => match ρ[i]? with
  | some (.ow ds) => match fe ρ with
    | some d => if ds.length < sizeLine then some (.nx (ρ.set i (.ow (ds ++ [d])))) else none
    | none => none
  | _ => none
theorem se_app {i : Nat} {ec : Expr} (hpe : PE X ec (tBM X.K "list" rAppend (tVar i) (tCons (tD X.K fe) tNil))) (hs : swapsWith ec none pos.line X.env = pure false := by rfl) : SE X (.Expr ec pos) (s_app i fe) := fun G F0 H0 => by
  refine PS.imp (ps_expr hpe hs) fun D σ H ⟨ρ, F, r, E, hf, q⟩ => ?_
  unfold s_app at hf
  split at hf
  · rename_i ds hds
    split at hf
    · rename_i d hd'
      split at hf
      · rename_i hlt
        cases hf
        obtain ⟨own, A⟩ := E
        obtain ⟨a, xs, hs, ho, hx, hz, h2, hF, h0, hG⟩ := A.ow hds
        refine ⟨_, hs, .inl ⟨rfl, _, SqL.of hx⟩, ρ, F, d, ⟨own, A.o⟩, hd', fun v F' H' x hv => ?_⟩
        refine ⟨a, xs, v, rfl, rfl, x.hh.lst hx, by rw [h2.len]; exact hlt, q σ F' _ x.ff ⟨own, (A.ext x).put hds hs ?_ ((h2.up x.ff).append (.one hv))⟩⟩
        rw [List.length_append, h2.len]
        exact hlt
      · cases hf
    · cases hf
  · cases hf
def s_ret (fe : Ef) : Sf := fun ρ => (fe ρ).map fun d => .rt d ρ
theorem se_ret (he : DE X e fe) : SE X (.Return (some e) pos) (s_ret fe) := fun G F0 H0 => by
  refine PS.imp (ps_ret he) fun D σ H ⟨ρ, F, r, E, hf, q⟩ => ?_
  obtain ⟨d, h1, rfl⟩ := Option.map_eq_some_iff.mp hf
  exact ⟨ρ, F, d, E.r, h1, fun v F' H' x hv => q v σ F' H' x.ff (E.ext x) hv⟩
def s_retN : Sf := fun ρ => some (.rt .none ρ)
theorem se_retN : SE X (.Return none pos) s_retN := fun G F0 H0 => by
  refine PS.imp ps_retN fun D σ H ⟨ρ, F, r, E, hf, q⟩ => ?_
  cases hf
  exact q _ σ F H (Same.refl _) E .non
/-- return x, x of its own -/
def s_reto (i : Nat) : Sf := fun ρ => match ρ[i]? with
  | some (.ow ds) => some (.rt (.list ds) (ρ.set i (.im (.list ds))))
  | _ => none
theorem se_reto {i : Nat} {x : Str} {p : Pos} (hi : X.N[i]? = some x := by rfl) (hv : Vis X.env.scope x := by first | exact Or.inl rfl | exact Or.inr (Or.inl rfl) | exact Or.inr (Or.inr rfl)) (hd : (x == ("__debug__" : Str)) = false := by decide) (hcd : (x == ("__classdict__" : Str)) = false := by decide) :
    SE X (.Return (some (.Name x p)) pos) (s_reto i) := fun G F0 H0 => by
  refine PS.imp (ps_ret (pv i hi hv hd hcd)) fun D σ H ⟨ρ, F, r, E, hf, q⟩ => ?_
  unfold s_reto at hf
  split at hf
  · rename_i ds hds
    cases hf
    obtain ⟨own, A⟩ := E
    obtain ⟨a, xs, hs, ho, hx, hz, h2, hF, h0, hG⟩ := A.ow hds
    obtain ⟨A', sm, hd⟩ := A.freeze hds hs hx
    exact ⟨_, hs, q _ σ _ H sm ⟨_, A'⟩ hd⟩
  · cases hf
/-- from here on a name's own list stays (no statement) -/
def s_frz (i : Nat) (f : Sf) : Sf := fun ρ => match ρ[i]? with
  | some (.ow ds) => f (ρ.set i (.im (.list ds)))
  | _ => none
theorem frz_read {K : PySem.W.Frag} {G : List Addr} {F0 H0 : Hp} {i : Nat} {D : Ends} {σ : St} {H : Hp} (h : tS K G F0 H0 (s_frz i f) D σ H) : tS K G F0 H0 f D σ H := by
  obtain ⟨ρ, F, r, E, hf, q⟩ := h
  unfold s_frz at hf
  split at hf
  · rename_i ds hds
    obtain ⟨own, A⟩ := E
    obtain ⟨a, xs, hs, ho, hx, hz, h2, hF, h0, hG⟩ := A.ow hds
    obtain ⟨A', sm, hd⟩ := A.freeze hds hs hx
    exact ⟨_, _, r, ⟨_, A'⟩, hf, q.up sm⟩
  · cases hf
theorem se_frz (i : Nat) (h : SE X st f) : SE X st (s_frz i f) := fun G F0 H0 => PS.imp (h G F0 H0) fun _ _ _ z => frz_read z
theorem ses_frz (i : Nat) {sts : List Stmt} (h : SEs X sts f) : SEs X sts (s_frz i f) := fun G F0 H0 => PSs.imp (h G F0 H0) fun _ _ _ z => frz_read z
def s_if (c : Tf) (f g : Sf) : Sf := fun ρ => match c ρ with
  | some true => f ρ
  | some false => g ρ
  | none => none
theorem se_if {c : Expr} {a b : List Stmt} {fc : Tf} (hc : DT X c fc) (ha : SEs X a f) (hb : SEs X b g) : SE X (.If c a b pos) (s_if fc f g) := fun G F0 H0 => by
  refine PS.imp (ps_if hc (ha G F0 H0) (hb G F0 H0)) fun D σ H ⟨ρ, F, r, E, hf, q⟩ => ?_
  unfold s_if at hf
  split at hf
  · rename_i e
    exact ⟨ρ, F, true, E.r, e, fun F' H' x => iteT ⟨ρ, F', r, E.ext x, hf, q.up x.ff⟩⟩
  · rename_i e
    exact ⟨ρ, F, false, E.r, e, fun F' H' x => iteF ⟨ρ, F', r, E.ext x, hf, q.up x.ff⟩⟩
  · cases hf
/-- what is never come to -/
def s_bad : Sf := fun _ => none
theorem se_bad : SE X st s_bad := fun G F0 H0 => ⟨fun _ _ _ _ _ _ ⟨_, _, _, _, z, _⟩ => nomatch z⟩
theorem ses_bad {sts : List Stmt} : SEs X sts s_bad := fun G F0 H0 => ⟨fun _ _ _ _ _ _ ⟨_, _, _, _, z, _⟩ => nomatch z⟩
def s_drop (fe : Ef) : Sf := fun ρ => (fe ρ).map fun _ => .nx ρ
theorem se_drop (he : DE X e fe) (hs : swapsWith e none pos.line X.env = pure false := by rfl) : SE X (.Expr e pos) (s_drop fe) := fun G F0 H0 => by
  refine PS.imp (ps_expr he hs) fun D σ H ⟨ρ, F, r, E, hf, q⟩ => ?_
  obtain ⟨d, h1, rfl⟩ := Option.map_eq_some_iff.mp hf
  exact ⟨ρ, F, d, E.r, h1, fun v F' H' x hv => q σ F' H' x.ff (E.ext x)⟩
theorem se_pass : SE X (.Pass pos) s_nil := fun G F0 H0 => PS.imp ps_pass fun D σ H ⟨ρ, F, r, E, hf, q⟩ => by
  cases hf; exact q σ F H (Same.refl _) E
def s_brk : Sf := fun ρ => some (.bk ρ)
theorem se_brk : SE X (.Break pos) s_brk := fun G F0 H0 => PS.imp ps_break fun D σ H ⟨ρ, F, r, E, hf, q⟩ => by
  cases hf; exact q σ F H (Same.refl _) E
def s_cnt : Sf := fun ρ => some (.ct ρ)
theorem se_cnt : SE X (.Continue pos) s_cnt := fun G F0 H0 => PS.imp ps_continue fun D σ H ⟨ρ, F, r, E, hf, q⟩ => by
  cases hf; exact q σ F H (Same.refl _) E

/-! ### loops -/
def forGo (t : Tg) (b : Sf) : List Da → DEnv → Option Fl
  | [], ρ => some (.nx ρ)
  | d :: ds, ρ => match bindT t d ρ with
    | none => none
    | some ρ1 => match b ρ1 with
      | some (.nx ρ2) => forGo t b ds ρ2
      | some (.ct ρ2) => forGo t b ds ρ2
      | some (.bk ρ2) => some (.nx ρ2)
      | r => r
def s_for (it : Lf) (t : Tg) (b : Sf) : Sf := fun ρ => match it ρ with
  | some ds => forGo t b ds ρ
  | none => none
theorem for_read {K : PySem.W.Frag} {G : List Addr} {F0 H0 : Hp} {it : Lf} {t : Tg} {D : Ends} {σ : St} {H : Hp} (h : tS K G F0 H0 (s_for it t f) D σ H) : tFor (tI K it) (gOf K t) (tS K G F0 H0 f) D σ H := by
  obtain ⟨ρ, F, r, E, hf, q⟩ := h
  unfold s_for at hf
  split at hf
  · rename_i items hit
    refine ⟨ρ, F, items, E.r, hit, fun J F1 H1 x1 dl => ?_⟩
    refine ⟨fun i m σ' H' => m = items.length - i ∧ i ≤ items.length ∧ ∃ ρ' F', EnvAt K G F0 H0 ρ' σ' F' H' ∧ Same F1 F' ∧ forGo t f (items.drop i) ρ' = some r, ⟨_, rfl, Nat.zero_le _, ρ, F1, E.ext x1, Same.refl _, hf⟩, ?_⟩
    rintro i m σ' H' ⟨rfl, hi, ρ', F', E', sf, hr⟩
    by_cases hlt : i < items.length
    · refine .inr ⟨dl.go i F' H' sf E'.sub hlt, fun σ'' H'' => ∃ ρ' F', EnvAt K G F0 H0 ρ' σ'' F' H'' ∧ Same F1 F' ∧ forGo t f (items.drop (i + 1)) ρ' = some r, fun σ'' H'' z => ⟨items.length - (i + 1), by omega, rfl, hlt, z⟩, fun x H'' hy => ?_⟩
      obtain ⟨F2, d, hd, x2, hx⟩ := dl.yld i F' H' x H'' sf E'.sub hlt hy
      have hdrop : items.drop i = d :: items.drop (i + 1) := by
        obtain ⟨h1, h2⟩ := List.getElem?_eq_some_iff.mp hd
        rw [List.drop_eq_getElem_cons h1, h2]
      rw [hdrop] at hr
      unfold forGo at hr
      split at hr
      · cases hr
      rename_i ρ1 hb
      refine ga_read (E'.ext x2) hx hb fun σ2 E2 => ?_
      split at hr
      · rename_i ρ2 hb2
        exact ⟨ρ1, F2, _, E2, hb2, fun σ3 F3 H3 s3 E3 => ⟨ρ2, F3, E3, (sf.trans x2.ff).trans s3, hr⟩⟩
      · rename_i ρ2 hb2
        exact ⟨ρ1, F2, _, E2, hb2, fun σ3 F3 H3 s3 E3 => ⟨ρ2, F3, E3, (sf.trans x2.ff).trans s3, hr⟩⟩
      · rename_i ρ2 hb2
        cases hr
        exact ⟨ρ1, F2, _, E2, hb2, fun σ3 F3 H3 s3 E3 => q σ3 F3 H3 (((x1.ff.trans sf).trans x2.ff).trans s3) E3⟩
      · rename_i r' n1 n2 n3
        refine ⟨ρ1, F2, r, E2, hr, ?_⟩
        cases r with
        | rt d ρ2 => exact fun v σ3 F3 H3 s3 E3 hv => q v σ3 F3 H3 (((x1.ff.trans sf).trans x2.ff).trans s3) E3 hv
        | nx ρ2 => exact absurd hr (by intro z; exact n1 ρ2 z)
        | ct ρ2 => exact absurd hr (by intro z; exact n2 ρ2 z)
        | bk ρ2 => exact absurd hr (by intro z; exact n3 ρ2 z)
    · have e : i = items.length := by omega
      subst e
      rw [List.drop_length] at hr
      cases hr
      exact .inl ⟨dl.stop F' H' sf E'.sub, q σ' F' H' (x1.ff.trans sf) E'⟩
  · cases hf
theorem se_for {tg iter : Expr} {body : List Stmt} {it : Lf} {t : Tg} (hp : PassesOwn (model X.prog X.w) X.A X.env X.xe) (hi : DI X tg iter it) (hg : PG X tg (gOf X.K t)) (hb : SEs X body f) (hc : X.calm = true := by rfl) (hs : ∀ x, foldedSetIterable iter X.env x = pure x := by intro _; rfl) :
    SE X (.For tg iter body [] pos) (s_for it t f) := fun G F0 H0 => PS.imp (ps_for hp hc hi hg (hb G F0 H0) hs) fun _ _ _ h => for_read h
def whileGo (c : Tf) (b : Sf) : Nat → DEnv → Option Fl
  | 0, _ => none
  | n + 1, ρ => match c ρ with
    | none => none
    | some false => some (.nx ρ)
    | some true => match b ρ with
      | some (.nx ρ2) => whileGo c b n ρ2
      | some (.ct ρ2) => whileGo c b n ρ2
      | some (.bk ρ2) => some (.nx ρ2)
      | r => r
def s_while (c : Tf) (b : Sf) (n : Nat) : Sf := fun ρ => whileGo c b n ρ
theorem while_read {K : PySem.W.Frag} {G : List Addr} {F0 H0 : Hp} {c : Tf} {n : Nat} {D : Ends} {σ : St} {H : Hp} (h : tS K G F0 H0 (s_while c f n) D σ H) : tWhile (tT K c) (tS K G F0 H0 f) D σ H := by
  obtain ⟨ρ, F, r, E, hf, q⟩ := h
  refine ⟨fun m σ' H' => ∃ ρ' F', EnvAt K G F0 H0 ρ' σ' F' H' ∧ Same F F' ∧ whileGo c f m ρ' = some r, ⟨n, ρ, F, E, Same.refl _, hf⟩, ?_⟩
  rintro m σ' H' ⟨ρ', F', E', sf, hr⟩
  cases m with
  | zero => cases hr
  | succ m =>
    unfold whileGo at hr
    split at hr
    · cases hr
    · rename_i hc
      cases hr
      exact ⟨ρ', F', false, E'.r, hc, fun F1 H1 x1 => iteF (q σ' F1 H1 (sf.trans x1.ff) (E'.ext x1))⟩
    · rename_i hc
      refine ⟨ρ', F', true, E'.r, hc, fun F1 H1 x1 => iteT ⟨fun σ'' H'' => ∃ ρ' F', EnvAt K G F0 H0 ρ' σ'' F' H'' ∧ Same F F' ∧ whileGo c f m ρ' = some r, fun σ'' H'' z => ⟨m, Nat.lt_succ_self _, z⟩, ?_⟩⟩
      split at hr
      · rename_i ρ2 hb2
        exact ⟨ρ', F1, _, E'.ext x1, hb2, fun σ3 F3 H3 s3 E3 => ⟨ρ2, F3, E3, (sf.trans x1.ff).trans s3, hr⟩⟩
      · rename_i ρ2 hb2
        exact ⟨ρ', F1, _, E'.ext x1, hb2, fun σ3 F3 H3 s3 E3 => ⟨ρ2, F3, E3, (sf.trans x1.ff).trans s3, hr⟩⟩
      · rename_i ρ2 hb2
        cases hr
        exact ⟨ρ', F1, _, E'.ext x1, hb2, fun σ3 F3 H3 s3 E3 => q σ3 F3 H3 ((sf.trans x1.ff).trans s3) E3⟩
      · rename_i r' n1 n2 n3
        refine ⟨ρ', F1, r, E'.ext x1, hr, ?_⟩
        cases r with
        | rt d ρ2 => exact fun v σ3 F3 H3 s3 E3 hv => q v σ3 F3 H3 ((sf.trans x1.ff).trans s3) E3 hv
        | nx ρ2 => exact absurd hr (by intro z; exact n1 ρ2 z)
        | ct ρ2 => exact absurd hr (by intro z; exact n2 ρ2 z)
        | bk ρ2 => exact absurd hr (by intro z; exact n3 ρ2 z)
theorem se_while {c : Expr} {body : List Stmt} {fc : Tf} (n : Nat) (hp : PassesOwn (model X.prog X.w) X.A X.env X.xe) (hc : DT X c fc) (hb : SEs X body f) : SE X (.While c body [] pos) (s_while fc f n) := fun G F0 H0 =>
  PS.imp (ps_while hp hc (hb G F0 H0)) fun _ _ _ h => while_read h
end

/-! ### defs -/
def startE (nN : Nat) (ds : List Da) : DEnv := ds.map .im ++ List.replicate (nN - ds.length) .no
def runD (nN : Nat) (f : Sf) (ds : List Da) : Option Da := match f (startE nN ds) with
  | some (.rt d _) => some d
  | some (.nx _) => some .none
  | _ => none
/-- the promise: n arguments that stand for data; o's data is handed back, nothing changes -/
def Nt (F : Hp) : Prop := ∀ a ps, F a ≠ some (.tbl ps)
def spD (K : PySem.W.Frag) (n : Nat) (o : List Da → Option Da) : Sp := fun vs H Q _ => vs.length = n ∧ ∃ F ds r, Same F H ∧ Nt F ∧ DvAll K F vs ds ∧ o ds = some r ∧ ∀ v F' H', Ext F H F' H' → Dv K F' v r → Q v H'
theorem EnvR.nt {K : PySem.W.Frag} {ρ : DEnv} {σ : St} {F H : Hp} (h : EnvR K ρ σ F H) : Nt F := let ⟨_, h⟩ := h; h.nt
theorem start_env {K : PySem.W.Frag} {F H : Hp} {N : List Str} {vs : List V} {ds : List Da} (s : Same F H) (hnt : ∀ a ps, F a ≠ some (.tbl ps)) (h : DvAll K F vs ds) (hl : vs.length ≤ N.length) : EnvAt K [] F H (startE N.length ds) (start N vs) F H := by
  refine ⟨fun _ => [], ⟨⟨s, ?_, fun i e s' q1 q2 => ?_, fun _ _ z => (nomatch z), hnt, fun _ _ _ z => (nomatch z)⟩, ExtG.of (Ext.refl s), fun _ z => (nomatch z), fun _ _ z => (nomatch z), fun _ _ _ _ z => (nomatch z)⟩⟩
  · unfold startE L2.start
    rw [List.length_append, List.length_append, List.length_map, List.length_map, List.length_replicate, List.length_replicate, h.len]
  · unfold startE at q1
    unfold L2.start at q2
    by_cases hi : i < ds.length
    · rw [List.getElem?_append_left (by simpa using hi), List.getElem?_map] at q1
      rw [List.getElem?_append_left (by rw [List.length_map, h.len]; exact hi), List.getElem?_map] at q2
      rw [List.getElem?_eq_getElem hi] at q1
      cases q1
      obtain ⟨v, e1, e2⟩ := h.getD (List.getElem?_eq_getElem hi)
      rw [e1] at q2
      cases q2
      exact .im e2
    · rw [List.getElem?_append_right (by simpa using hi), List.getElem?_replicate] at q1
      split at q1
      · cases q1; exact .no
      · cases q1
theorem def_ok {P : Program} {w : World} {K : PySem.W.Frag} {mg : Str → Option Value} {base : Heap} {x qual : Str} {params : Arguments} {body : List Stmt} {scope : Scope} {dvs : List V} {kws : List (Str × V)} {f : Addr} {fd : FuncData} {N ps : List Str} {k : Nat} {o : List Da → Option Da} {sf : Sf}
    (D : FunD K x qual params body scope dvs kws f fd) (S : FnScope N ps scope) (ho : ∀ ds r, o ds = some r → runD N.length sf ds = some r)
    (h : ∀ (cdv : Value) (A : Around) (outer : List Env) (s : Shared) (H : Hp) (E : XK), Room k (A.deeper (envOfC qual scope s.heap.objs.size f cdv)) → SEs (cxOf CX0 P w K mg base N qual scope f cdv A outer s H E).nox body sf) :
    FnOk P w K mg base CX0 (k + 1) f fd ps (spD K ps.length o) := by
  refine D.ok S (fun vs H Q E z => z.1) fun cdv A outer s H vs Q E hr z => ?_
  obtain ⟨hl, F, ds, r, sub, hnt, hv, hor, q⟩ := z
  refine ⟨_, PSs.nox (h cdv A outer s H E hr [] F H), ?_⟩
  have hpl : ps.length ≤ N.length := by have := congrArg List.length S.pre; rw [List.length_take] at this; omega
  have hrun := ho ds r hor
  unfold runD at hrun
  split at hrun
  · rename_i d ρ' e
    cases hrun
    exact ⟨_, F, _, start_env sub hnt hv (by omega), e, fun v σ' F' H' s' E' hd => q v F' H' E'.xg.nil hd⟩
  · rename_i ρ' e
    cases hrun
    exact ⟨_, F, _, start_env sub hnt hv (by omega), e, fun σ' F' H' s' E' => q _ F' H' E'.xg.nil .non⟩
  · cases hrun
/-- a call of a def that keeps such a promise -/
theorem de_call {X : Cx} {k : Nat} {f : Addr} {fd : FuncData} {ps : List Str} {n : Nat} {o : List Da → Option Da} {x : Str} {p pos : Pos} {e : Expr} {es : List Expr} {l : Lf} (F : FnOk X.prog X.w X.K X.mg X.base CX0 k f fd ps (spD X.K n o)) (hr : Room k X.A) (hm : X.mg x = some (.ref f)) (hk : PySem.W.keepIn X.K (.ref f) = true) (hb : Binds X.K fd ps [])
    (ha : DA X (e :: es) l) (hn : (e :: es).length = n := by rfl) (hll : ∀ ρ ds, l ρ = some ds → ds.length = n) (hg : Gl X x := by rfl) (hdb : (x == ("__debug__" : Str)) = false := by decide) (he : starEach (e :: es) X.env = (false, eval e X.env) :: starEach es X.env := by rfl) (hpl : (backTo pos (starEach es X.env)).any (·.1) = false := by rfl) :
    DE X (.Call (.Name x p) (e :: es) [] pos) (e_call o l) := by
  refine PE.imp (pe_call F hr hg hm hk hb .nil pass0 ha hdb he hpl) fun σ H Q ⟨ρ, F, d, E, hf, q⟩ => ?_
  obtain ⟨ds, h1, hf⟩ := Option.bind_eq_some_iff.mp hf
  exact ⟨ρ, F, ds, E, h1, fun vs F1 H1 x1 hv => ⟨by rw [List.append_nil, hv.len]; exact hll ρ ds h1, F1, ds, d, x1.fh, (E.ext x1).nt, by rw [List.append_nil]; exact hv, hf, fun v F2 H2 x2 hw => q v F2 H2 (x1.trans x2) hw⟩⟩
end DD
end

section
set_option Elab.async false
set_option linter.all false
set_option maxRecDepth 100000
set_option maxHeartbeats 2000000
/-! The data layer: sorted, repr, isinstance, names of their own read. -/
namespace DD
open PySem PySem.Spec PyProof.Rows L2

/-! ### a call that hands back a new list -/
def rCN (K : PySem.W.Frag) (o : List Da → Option (List Da)) : List V → Hp → VK → Prop := fun vs H Q => ∃ F ds r, Same F H ∧ DvAll K F vs ds ∧ o ds = some r ∧ ∀ p xs, H p = none → xs.length ≤ sizeLine → DvAll K F xs r → Q (.ref p) (upd H p (.lst xs))
abbrev DCN (X : Cx) (f : Value) (o : List Da → Option (List Da)) : Prop := CallR X f (rCN X.K o)
def l_call (o : List Da → Option (List Da)) (l : Lf) : Lf := fun ρ => (l ρ).bind o
section
variable {X : Cx} {e : Expr} {es : List Expr} {o : List Da → Option (List Da)} {l : Lf} {x : Str} {p pos : Pos}
theorem calln_read {K : PySem.W.Frag} {σ : St} {H : Hp} {Q : VK} (h : tN K (l_call o l) σ H Q) : tCB (rCN K o) (tA K l) σ H Q := by
  obtain ⟨ρ, F, d, E, hf, q⟩ := h
  obtain ⟨ds, h1, hf⟩ := Option.bind_eq_some_iff.mp hf
  refine ⟨ρ, F, ds, E, h1, fun vs F1 H1 x1 hv => ⟨F1, ds, d, x1.fh, hv, hf, fun p xs hp hz hw => ?_⟩⟩
  have hn : H p = none := x1.hh.none hp
  exact q p xs F1 _ (x1.trans (Ext.out x1.fh hp)) (x1.fh.free hp) hn upd_same hz hw
theorem dn_callB {id : String} (hc : DCN X (.builtin id) o) (hm : X.mg x = none) (hv : bootBuiltins x = some (.builtin id)) (ha : DA X (e :: es) l) (hg : Gl X x := by rfl) (hn : x ≠ "__name__" := by decide) (hdb : (x == ("__debug__" : Str)) = false := by decide)
    (he : starEach (e :: es) X.env = (false, eval e X.env) :: starEach es X.env := by rfl) (hpl : (backTo pos (starEach es X.env)).any (·.1) = false := by rfl) : DN X (.Call (.Name x p) (e :: es) [] pos) (l_call o l) :=
  PE.imp (pe_callB hc hg hm hv ha hn hdb he hpl) fun _ _ _ h => calln_read h
theorem dn_callT {T : String} (hc : DCN X (.type T) o) (hm : X.mg x = none) (hv : bootBuiltins x = some (.type T)) (ha : DA X (e :: es) l) (hg : Gl X x := by rfl) (hn : x ≠ "__name__" := by decide) (hdb : (x == ("__debug__" : Str)) = false := by decide)
    (he : starEach (e :: es) X.env = (false, eval e X.env) :: starEach es X.env := by rfl) (hpl : (backTo pos (starEach es X.env)).any (·.1) = false := by rfl) : DN X (.Call (.Name x p) (e :: es) [] pos) (l_call o l) :=
  PE.imp (pe_callTy hc hg hm hv ha hn hdb he hpl) fun _ _ _ h => calln_read h
end
section
variable {X : Cx} {es : List Expr} {l : Lf} {pos : Pos}
def l_lst (l : Lf) : Lf := fun ρ => (l ρ).bind fun ds => if ds.length ≤ sizeLine then some ds else none
theorem dn_lst (h : DA X es l) : DN X (.List es pos) (l_lst l) := by
  refine PE.imp (pe_lst h) fun σ H Q ⟨ρ, F, d, E, hf, q⟩ => ?_
  obtain ⟨ds, h1, hf⟩ := Option.bind_eq_some_iff.mp hf
  split at hf
  · rename_i hle
    obtain rfl := Option.some.inj hf
    refine ⟨ρ, F, _, E, h1, fun vs F1 H1 x1 hv => ⟨by rw [hv.len]; exact hle, fun p hp => ?_⟩⟩
    have hn : H p = none := x1.hh.none hp
    exact q p vs F1 _ (x1.trans (Ext.out x1.fh hp)) (x1.fh.free hp) hn upd_same (by rw [hv.len]; exact hle) hv
  · cases hf
def cl_list : List Da → Option (List Da)
  | [.list xs] => some xs
  | [.tuple xs] => some xs
  | _ => none
theorem dcn_list : DCN X (.type "list") cl_list := by
  refine CallR.imp call_list_of fun vs H Q ⟨F, ds, r, sub, hv, ho, k⟩ => ?_
  unfold cl_list at ho
  split at ho
  · cases ho
    cases hv with
    | cons h1 h2 =>
      cases h2
      cases h1 with
      | lst h1 hz h2 => exact ⟨_, _, rfl, .inl (SqL.of (sub _ _ h1)), fun l hl => k l _ hl hz h2⟩
  · cases ho
    cases hv with
    | cons h1 h2 =>
      cases h2
      cases h1 with
      | tup h1 hz h2 => exact ⟨_, _, rfl, .inr (SqT.of (sub _ _ h1)), fun l hl => k l _ hl hz h2⟩
  · cases ho

/-! ### sorted -/
/-- stable, by insertion: computes -/
def insD (d : Da) : List Da → List Da
  | [] => [d]
  | e :: r => if PySem.W.dataLt e d then e :: insD d r else d :: e :: r
def sortD : List Da → List Da
  | [] => []
  | d :: r => insD d (sortD r)
def tupB : Da → Bool
  | .tuple (_ :: _) => true
  | _ => false
def othB : Da → Bool
  | .none => false
  | .tuple _ => false
  | _ => true
def sortable (ds : List Da) : Bool := (ds.all fun d => ds.all fun e => PySem.W.alike d e) && (ds.all tupB || ds.all othB) && (ds.all fun d => decide (d.depth ≤ 60)) && noScA ds
def cl_sorted : List Da → Option (List Da)
  | [.list xs] => if sortable xs then some (sortD xs) else none
  | [.tuple xs] => none
  | _ => none
theorem insD_perm (d : Da) : ∀ l : List Da, (insD d l).Perm (d :: l)
  | [] => .refl _
  | e :: r => by
    unfold insD
    split
    · exact ((insD_perm d r).cons e).trans (List.Perm.swap _ _ _)
    · exact .refl _
theorem sortD_perm : ∀ l : List Da, (sortD l).Perm l
  | [] => .refl _
  | d :: r => (insD_perm d _).trans ((sortD_perm r).cons d)
theorem sortD_len (l : List Da) : (sortD l).length = l.length := (sortD_perm l).length_eq
theorem dataLe_lt (x y : Da) : PySem.W.dataLe false id x y = !PySem.W.dataLt y x := by
  first | rfl | (unfold PySem.W.dataLe PySem.W.dataLt; rfl)
theorem total_le : PySem.W.TotalLe (PySem.W.dataLe false (id : Da → Da)) := PySem.W.sortLe_total _ _ _
theorem le_of_nlt {x y : Da} (h : PySem.W.dataLt y x = false) : PySem.W.dataLe false id x y = true := by rw [dataLe_lt, h]; rfl
theorem lt_le {x y : Da} (h : PySem.W.dataLt x y = true) : PySem.W.dataLe false id x y = true := by
  rcases total_le.total x y with q | q
  · exact q
  · rw [dataLe_lt, h] at q; cases q
theorem insD_sorted (d : Da) : ∀ l : List Da, l.Pairwise (fun a b => PySem.W.dataLe false id a b = true) → (insD d l).Pairwise (fun a b => PySem.W.dataLe false id a b = true)
  | [], _ => by unfold insD; exact List.pairwise_singleton _ _
  | e :: r, h => by
    unfold insD
    obtain ⟨h1, h2⟩ := List.pairwise_cons.mp h
    split
    · rename_i hlt
      refine List.pairwise_cons.mpr ⟨fun b hb => ?_, insD_sorted d r h2⟩
      rcases List.mem_cons.mp ((insD_perm d r).mem_iff.mp hb) with e' | e'
      · rw [e']; exact lt_le hlt
      · exact h1 b e'
    · rename_i hlt
      have hde := le_of_nlt (x := d) (y := e) (by simpa using hlt)
      refine List.pairwise_cons.mpr ⟨fun b hb => ?_, h⟩
      rcases List.mem_cons.mp hb with e' | e'
      · rw [e']; exact hde
      · exact total_le.trans d e b hde (h1 b e')
theorem sortD_sorted : ∀ l : List Da, (sortD l).Pairwise (fun a b => PySem.W.dataLe false id a b = true)
  | [] => List.Pairwise.nil
  | d :: r => insD_sorted d _ (sortD_sorted r)
theorem insD_filter (c d : Da) : ∀ l : List Da, (insD d l).filter (PySem.W.sameRank (PySem.W.dataLe false id) c) = (d :: l).filter (PySem.W.sameRank (PySem.W.dataLe false id) c)
  | [] => rfl
  | e :: r => by
    unfold insD
    split
    · rename_i hlt
      rw [List.filter_cons, insD_filter c d r, List.filter_cons, List.filter_cons, List.filter_cons]
      by_cases h1 : PySem.W.sameRank (PySem.W.dataLe false id) c e = true
      · by_cases h2 : PySem.W.sameRank (PySem.W.dataLe false id) c d = true
        · unfold PySem.W.sameRank at h1 h2
          rw [Bool.and_eq_true] at h1 h2
          have q := total_le.trans d c e h2.2 h1.1
          rw [dataLe_lt, hlt] at q
          cases q
        · simp [h1, h2]
      · simp [h1]
    · rfl
theorem sortD_filter (c : Da) : ∀ l : List Da, (sortD l).filter (PySem.W.sameRank (PySem.W.dataLe false id) c) = l.filter (PySem.W.sameRank (PySem.W.dataLe false id) c)
  | [] => rfl
  | d :: r => by
    show (insD d (sortD r)).filter _ = _
    rw [insD_filter, List.filter_cons, List.filter_cons, sortD_filter c r]
theorem sortD_eq (l : List Da) : sortD l = l.mergeSort (PySem.W.dataLe false id) := PySem.W.sort_unique total_le (sortD_sorted l) fun c => sortD_filter c l
theorem each_of {K : PySem.W.Frag} {F : Hp} : ∀ {vs : List V} {us : List Value} {ds : List Da}, Vals vs us → DvAll K F vs ds → PySem.W.EachIs (fun u d => ∃ v, RelV v u ∧ Dv K F v d) us ds
  | _, _, _, .nil, h => by cases h; exact .nil
  | _, _, _, .cons r t, h => by
    cases h with
    | cons h1 h2 => exact .cons ⟨_, r, h1⟩ (each_of t h2)
theorem of_each {K : PySem.W.Frag} {F : Hp} : ∀ {us : List Value} {ds : List Da}, PySem.W.EachIs (fun u d => ∃ v, RelV v u ∧ Dv K F v d) us ds → ∃ vs, Vals vs us ∧ DvAll K F vs ds
  | _, _, .nil => ⟨[], .nil, .nil⟩
  | _, _, .cons ⟨v, r, h⟩ t => by
    obtain ⟨vs, h1, h2⟩ := of_each t
    exact ⟨v :: vs, .cons r h1, .cons h h2⟩
theorem each_mono {α β : Type} {R S : α → β → Prop} (k : ∀ a b, R a b → S a b) : ∀ {as : List α} {bs : List β}, PySem.W.EachIs R as bs → PySem.W.EachIs S as bs
  | _, _, .nil => .nil
  | _, _, .cons h t => .cons (k _ _ h) (each_mono k t)
theorem each_reads {X : Cx} {pins : List (Addr × Obj)} {σ : St} {H : Hp} {s : Shared} (I : Inv X pins σ H s) : ∀ {vs : List V} {us : List Value} {ds : List Da}, noScA ds = true → Vals vs us → DvAll X.K H vs ds → PySem.W.EachIs (fun v b => ∃ as, Reads s.heap v (id b) as) us ds
  | _, _, _, _, .nil, h => by cases h; exact .nil
  | _, _, _, c, .cons r t, h => by
    cases h with
    | cons h1 h2 =>
      rw [noScA, Bool.and_eq_true] at c
      exact .cons (Dv.reads I _ _ _ c.1 h1 r) (each_reads I c.2 t h2)
theorem sortable_of {ds : List Da} (h : sortable ds = true) : PySem.W.AllAlike (ds.map id) ∧ PySem.W.Sortable (ds.map id) ∧ (∀ d ∈ ds, d.depth ≤ 60) ∧ noScA ds = true := by
  unfold sortable at h
  simp only [Bool.and_eq_true, List.all_eq_true, decide_eq_true_eq, Bool.or_eq_true] at h
  obtain ⟨⟨⟨h1, h2⟩, h3⟩, h4⟩ := h
  rw [List.map_id]
  refine ⟨fun d hd e he => h1 d hd e he, ?_, h3, h4⟩
  rcases h2 with h2 | h2
  · refine .inl fun d hd => ?_
    have q := h2 d hd
    unfold tupB at q
    split at q
    · exact ⟨_, _, rfl⟩
    · cases q
  · refine .inr fun d hd => ?_
    have q := h2 d hd
    unfold othB at q
    split at q
    · cases q
    · cases q
    · rename_i n1 n2
      exact ⟨n1, n2⟩
theorem dcn_sorted (hu : X.A.units + 64 < cLine) : DCN X (.builtin "sorted") cl_sorted := by
  intro pins s σ H vs us Q I rs h
  obtain ⟨F, ds, r, sub, hv, ho, k⟩ := h
  unfold cl_sorted at ho
  split at ho
  · rename_i items
    split at ho
    · rename_i hs
      cases ho
      obtain ⟨s1, s2, s3, s4⟩ := sortable_of hs
      cases hv with
      | cons h1 h2 =>
        cases h2
        cases h1 with
        | lst h1 hz h2 =>
          obtain ⟨its, rv, hl, hz'⟩ := I.list (SqL.of (sub _ _ h1))
          rw [Vals.ref1 rs]
          have he := each_of rv h2
          have hr : PySem.W.EachIs (fun v b => ∃ as, Reads s.heap v (id b) as) its items := each_reads I s4 rv (h2.up sub)
          refine PySem.W.sorted_data (enc := id) hl.isList he hr s1 s2 (by rw [← h2.len]; exact hz) (fun b hb => ?_) fun out h3 h4 => ?_
          · have := s3 b hb
            show X.A.units + 2 + b.depth < cLine
            omega
          · rw [← sortD_eq] at h4
            obtain ⟨ys, v1, v2⟩ := of_each h4
            obtain ⟨ep, he'⟩ := PyProof.Rows.sortedAll_at s.heap its out.toArray
            have hlen : ys.length ≤ sizeLine := by rw [v2.len, sortD_len, ← h2.len]; exact hz
            exact ⟨.ref _, upd H (s.heap.objs.size + 1) (.lst ys), I.laid (t' := s.toks) (fun _ _ => PyProof.Rows.sortedAll_old) (Nat.le_succ _) ⟨hlen, out, ep, v1, he'⟩, rfl, k _ _ (I.hok.fresh (Nat.le_succ _)) hlen v2⟩
    · cases ho
  · cases ho
  · cases ho
end
end DD
end

section
set_option Elab.async false
set_option linter.all false
set_option maxRecDepth 100000
set_option maxHeartbeats 2000000
/-! The data layer: isinstance, names of their own read, further operators, callees. -/
namespace DD
open PySem PySem.Spec PyProof.Rows L2

/-! ### isinstance -/
def tyName : Da → String
  | .none => "NoneType"
  | .bool _ => "bool"
  | .int _ => "int"
  | .str _ => "str"
  | .list _ => "list"
  | .tuple _ => "tuple"
  | .dict _ => "dict"
def isT (T : String) (d : Da) : Bool := tyName d == T || (T == "int" && tyName d == "bool")
def goodT (T : String) : Bool := ["NoneType", "bool", "int", "str", "list", "tuple", "dict"].all fun s => kitB s T == some (s == T || (T == "int" && s == "bool"))
def e_isi (T : String) (f : Ef) : Ef := fun ρ => (f ρ).bind fun d => if isSc d = false then some (.bool (isT T d)) else none
theorem tyX_of {K : PySem.W.Frag} {H : Hp} {v : V} {d : Da} (c : isSc d = false) (h : Dv K H v d) : TyX K H v (.type (tyName d)) := by
  cases h with
  | non => exact .base .non
  | bl b => exact .base (.bl b)
  | int i => exact .base (.int i)
  | str x => exact .base (.str x)
  | lst h1 _ _ => exact .base (.lst h1)
  | tup h1 _ _ => exact .base (.tup h1)
  | dct h1 => exact .base (.dK h1)
  | scr h1 => cases c
theorem goodT_at {T : String} (h : goodT T = true) (d : Da) : kitB (tyName d) T = some (isT T d) := by
  unfold goodT at h
  rw [List.all_eq_true] at h
  have q := h (tyName d) (by cases d <;> simp [tyName])
  exact eq_of_beq q
section
variable {X : Cx} {a : Expr} {f : Ef} {p p2 pos : Pos}
theorem de_isi (T : String) (hT : goodT T = true) (ha : DE X a f) (hm : X.mg "isinstance" = none) (hmT : X.mg (Str.ofString T) = none) (hvT : bootBuiltins (Str.ofString T) = some (.type T)) (hg : Gl X "isinstance" := by rfl) (hgT : Gl X (Str.ofString T) := by rfl)
    (hn : (Str.ofString T) ≠ "__name__" := by decide) (hdb : ((Str.ofString T) == ("__debug__" : Str)) = false := by decide)
    (he : starEach (a :: [.Name (Str.ofString T) p2]) X.env = (false, eval a X.env) :: starEach [.Name (Str.ofString T) p2] X.env := by rfl) (hpl : (backTo pos (starEach [.Name (Str.ofString T) p2] X.env)).any (·.1) = false := by rfl) :
    DE X (.Call (.Name "isinstance" p) [a, .Name (Str.ofString T) p2] [] pos) (e_isi T f) := by
  refine PE.imp (pe_callB call_isi hg hm (by decide +kernel) (pa_cons ha (pa_cons (pe_bltn (v := .ty T) hgT hmT hvT rfl hn hdb) pa_nil) he) (by decide) (by decide) he hpl) fun σ H Q ⟨ρ, F, d, E, hf, q⟩ => ?_
  obtain ⟨x, h1, hf⟩ := Option.bind_eq_some_iff.mp hf
  split at hf
  · rename_i hsc
    cases hf
    exact ⟨ρ, F, x, E, h1, fun v F1 H1 x1 hv => ⟨v, .ty T, _, .type T, _, rfl, .ty T, tyX_of hsc (hv.up x1.fh), kit_ty (goodT_at hT x), q _ F1 H1 x1 (.bl _)⟩⟩
  · cases hf
/-- -e -/
def e_neg (f : Ef) : Ef := fun ρ => match f ρ with
  | some (.int i) => some (.int (-i))
  | _ => none
theorem de_neg (ha : DE X a f) : DE X (.UnaryOp .USub a pos) (e_neg f) := by
  refine PE.imp (pe_un un_neg ha) fun σ H Q ⟨ρ, F, d, E, hf, q⟩ => ?_
  unfold e_neg at hf
  split at hf
  · rename_i i e
    cases hf
    exact ⟨ρ, F, _, E, e, fun v F1 H1 x1 hv => by cases hv; exact ⟨i, rfl, q _ F1 H1 x1 (.int _)⟩⟩
  · cases hf
/-- is None -/
def o_isN (d e : Da) : Option Da := match e with
  | .none => some (.bool (isNone d))
  | _ => none
def o_isnotN (d e : Da) : Option Da := match e with
  | .none => some (.bool (!isNone d))
  | _ => none
theorem isNone_dec {K : PySem.W.Frag} {F : Hp} {v : V} {d : Da} (h : Dv K F v d) : decide (v = .non) = isNone d := by
  cases h <;> rfl
theorem do_isN : DOp X (compareOp .Is) o_isN := by
  refine OpR.imp op_isN fun x y H Q ⟨F, d, e, r, sub, hx, hy, ho, k⟩ => ?_
  unfold o_isN at ho
  split at ho
  · cases ho; cases hy
    refine ⟨rfl, ?_⟩
    rw [isNone_dec hx]
    exact k _ F H (Ext.refl sub) (.bl _)
  · cases ho
theorem do_isnotN : DOp X (compareOp .IsNot) o_isnotN := by
  refine OpR.imp op_notN fun x y H Q ⟨F, d, e, r, sub, hx, hy, ho, k⟩ => ?_
  unfold o_isnotN at ho
  split at ho
  · cases ho; cases hy
    refine ⟨rfl, ?_⟩
    rw [isNone_dec hx]
    exact k _ F H (Ext.refl sub) (.bl _)
  · cases ho
end

/-! ### names of their own, read on the way -/
def Ent.thaw : Ent → Ent
  | .ow ds => .im (.list ds)
  | .gn ds => .im (.list ds)
  | e => e
def thaw (ρ : DEnv) : DEnv := ρ.map Ent.thaw
/-- all but the tables -/
def noT (H : Hp) : Hp := fun a => match H a with
  | some (.tbl _) => none
  | o => o
theorem noT_of {H : Hp} {a : Addr} {o : HO} (n : NoTbl o) (h : H a = some o) : noT H a = some o := by
  unfold noT
  rw [h]
  cases o <;> first | rfl | exact absurd rfl (n _)
theorem noT_same (H : Hp) : Same (noT H) H := fun a o h => by
  unfold noT at h
  split at h
  · cases h
  · exact h
theorem noT_nt (H : Hp) : Nt (noT H) := fun a ps h => by
  unfold noT at h
  split at h
  · cases h
  · rename_i n
    exact n ps h
theorem same_noT {F H : Hp} (s : Same F H) (n : Nt F) : Same F (noT H) := fun a o h => noT_of (fun ps z => n a ps (by rw [h, z])) (s a o h)
theorem EnvR.thaw {K : PySem.W.Frag} {ρ : DEnv} {σ : St} {F H : Hp} (h : EnvR K ρ σ F H) : EnvR K (thaw ρ) σ (noT H) H := by
  obtain ⟨own, h⟩ := h
  have sm := same_noT h.sub h.nt
  refine ⟨fun _ => [], ⟨noT_same H, by simpa [DD.thaw] using h.len, fun i e s q1 q2 => ?_, fun _ _ z => (nomatch z), noT_nt H, fun _ _ _ z => (nomatch z)⟩⟩
  unfold DD.thaw at q1
  rw [List.getElem?_map] at q1
  obtain ⟨e', q3, rfl⟩ := Option.map_eq_some_iff.mp q1
  have q := h.ent i e' s q3 q2
  generalize own i = as at q
  cases q with
  | no => exact .no
  | im q => exact .im (q.up sm)
  | ow h1 hz h2 => exact .im (.lst (noT_of noTbl_lst h1) hz (h2.up sm))
  | gn h1 hz h2 => exact .im (.lst (noT_of noTbl_lst h1) hz (h2.up sm))
def e_sc (f : Ef) : Ef := fun ρ => match f (thaw ρ) with
  | some d => if scal d then some d else none
  | none => none
def t_sc (f : Tf) : Tf := fun ρ => f (thaw ρ)
theorem ext_of_same {F H H' : Hp} (s : Same F H) (nt : Nt F) (h : SameN H H') : Ext F H F H' := ⟨h, Same.refl _, fun a o e => h.o a o (fun ps z => nt a ps (by rw [e, z])) (s a o e), fun _ _ _ n => n, fun _ _ e => e⟩
section
variable {X : Cx} {a : Expr} {f : Ef} {t : Tf}
theorem de_sc (h : DE X a f) : DE X a (e_sc f) := PE.imp h fun σ H Q ⟨ρ, F, d, E, hf, q⟩ => by
  unfold e_sc at hf
  split at hf
  · rename_i d' e
    split at hf
    · rename_i hs
      cases hf
      refine ⟨DD.thaw ρ, noT H, d, E.thaw, e, fun v F' H' x hv => q v F H' (ext_of_same E.sub E.nt x.hh) ?_⟩
      cases hv <;> first | exact .non | exact .bl _ | exact .int _ | exact .str _ | cases hs
    · cases hf
  · cases hf
theorem dt_sc (h : DT X a t) : DT X a (t_sc t) := PT.imp h fun σ H Q ⟨ρ, F, b, E, hf, q⟩ =>
  ⟨DD.thaw ρ, noT H, b, E.thaw, hf, fun F' H' x => q F H' (ext_of_same E.sub E.nt x.hh)⟩
end

/-! ### sorted, list of a name's own list -/
theorem room64 {k : Nat} {A : Around} (h : Room k A) : A.units + 64 < cLine := by have := h.un; omega
theorem room65 {k : Nat} {A : Around} (h : Room k A) : A.units + 65 < cLine := by have := h.un; omega
theorem sorted_sh {X : Cx} (hu : X.A.units + 64 < cLine) : CallR X (.builtin "sorted") (fun vs H Q => ∃ F a xs ds, Same F H ∧ vs = [.ref a] ∧ H a = some (.lst xs) ∧ xs.length ≤ sizeLine ∧ DvAll X.K F xs ds ∧ sortable ds = true ∧ ∀ p ys, H p = none → ys.length ≤ sizeLine → DvAll X.K F ys (sortD ds) → Q (.ref p) (upd H p (.lst ys))) := by
  intro pins s σ H vs us Q I rs h
  obtain ⟨F, a, xs, ds, sub, rfl, ha, hz, h2, hs, k⟩ := h
  obtain ⟨s1, s2, s3, s4⟩ := sortable_of hs
  obtain ⟨its, rv, hl, hz'⟩ := I.list (SqL.of ha)
  rw [Vals.ref1 rs]
  have he := each_of rv h2
  have hr : PySem.W.EachIs (fun v b => ∃ as, Reads s.heap v (id b) as) its ds := each_reads I s4 rv (h2.up sub)
  refine PySem.W.sorted_data (enc := id) hl.isList he hr s1 s2 (by rw [← h2.len]; exact hz) (fun b hb => ?_) fun out h3 h4 => ?_
  · have := s3 b hb
    show X.A.units + 2 + b.depth < cLine
    omega
  · rw [← sortD_eq] at h4
    obtain ⟨ys, v1, v2⟩ := of_each h4
    obtain ⟨ep, he'⟩ := PyProof.Rows.sortedAll_at s.heap its out.toArray
    have hlen : ys.length ≤ sizeLine := by rw [v2.len, sortD_len, ← h2.len]; exact hz
    exact ⟨.ref _, upd H (s.heap.objs.size + 1) (.lst ys), I.laid (t' := s.toks) (fun _ _ => PyProof.Rows.sortedAll_old) (Nat.le_succ _) ⟨hlen, out, ep, v1, he'⟩, rfl, k _ _ (I.hok.fresh (Nat.le_succ _)) hlen v2⟩
def l_sortedo (i : Nat) : Lf := fun ρ => match ρ[i]? with
  | some (.ow ds) => if sortable ds then some (sortD ds) else none
  | _ => none
def l_listo (i : Nat) : Lf := fun ρ => match ρ[i]? with
  | some (.ow ds) => some ds
  | _ => none
theorem EnvO.ow {K : PySem.W.Frag} {own : Nat → List Addr} {ρ : DEnv} {σ : St} {F H : Hp} {i : Nat} {ds : List Da} (h : EnvO K own ρ σ F H) (hi : ρ[i]? = some (.ow ds)) : ∃ a xs, σ[i]? = some (some (.ref a)) ∧ H a = some (.lst xs) ∧ xs.length ≤ sizeLine ∧ DvAll K F xs ds := by
  have h1 : i < ρ.length := (List.getElem?_eq_some_iff.mp hi).1
  have h2 : i < σ.length := by rw [← h.len]; exact h1
  have e := h.ent i _ _ hi (List.getElem?_eq_getElem h2)
  rw [List.getElem?_eq_getElem h2]
  generalize σ[i] = s at e
  generalize own i = as at e
  cases e with
  | ow h1 hz h2 => exact ⟨_, _, rfl, h1, hz, h2⟩
section
variable {X : Cx} {x y : Str} {p p2 pos : Pos}
theorem dn_sortedo (i : Nat) {k : Nat} (hr : Room k X.A) (hm : X.mg "sorted" = none) (hi : X.N[i]? = some y := by rfl) (hv : Vis X.env.scope y := by first | exact Or.inl rfl | exact Or.inr (Or.inl rfl) | exact Or.inr (Or.inr rfl)) (hd : (y == ("__debug__" : Str)) = false := by decide) (hcd : (y == ("__classdict__" : Str)) = false := by decide) (hg : Gl X "sorted" := by rfl)
    (he : starEach [.Name y p2] X.env = (false, eval (.Name y p2) X.env) :: starEach [] X.env := by rfl) : DN X (.Call (.Name "sorted" p) [.Name y p2] [] pos) (l_sortedo i) := by
  refine PE.imp (pe_callB (sorted_sh (room64 hr)) hg hm (by decide +kernel) (pa_cons (pv i hi hv hd hcd) pa_nil he) (by decide) (by decide) he rfl) fun σ H Q ⟨ρ, F, d, ⟨own, E⟩, hf, q⟩ => ?_
  unfold l_sortedo at hf
  split at hf
  · rename_i ds hds
    split at hf
    · rename_i hs
      cases hf
      obtain ⟨a, xs, e1, h1, hz, h2⟩ := E.ow hds
      exact ⟨_, e1, F, a, xs, ds, E.sub, rfl, h1, hz, h2, hs, fun p ys hp hz2 h3 => q p ys F _ (Ext.out E.sub hp) (E.sub.free hp) hp upd_same hz2 h3⟩
    · cases hf
  · cases hf
theorem dn_listo (i : Nat) {k : Nat} (hr : Room k X.A) (hm : X.mg "list" = none) (hi : X.N[i]? = some y := by rfl) (hv : Vis X.env.scope y := by first | exact Or.inl rfl | exact Or.inr (Or.inl rfl) | exact Or.inr (Or.inr rfl)) (hd : (y == ("__debug__" : Str)) = false := by decide) (hcd : (y == ("__classdict__" : Str)) = false := by decide) (hg : Gl X "list" := by rfl)
    (he : starEach [.Name y p2] X.env = (false, eval (.Name y p2) X.env) :: starEach [] X.env := by rfl) : DN X (.Call (.Name "list" p) [.Name y p2] [] pos) (l_listo i) := by
  refine PE.imp (pe_callTy call_list_of hg hm (by decide +kernel) (pa_cons (pv i hi hv hd hcd) pa_nil he) (by decide) (by decide) he rfl) fun σ H Q ⟨ρ, F, d, ⟨own, E⟩, hf, q⟩ => ?_
  unfold l_listo at hf
  split at hf
  · rename_i ds hds
    cases hf
    obtain ⟨a, xs, e1, h1, hz, h2⟩ := E.ow hds
    exact ⟨_, e1, a, xs, rfl, .inl (SqL.of h1), fun p hp => q p xs F _ (Ext.out E.sub hp) (E.sub.free hp) hp upd_same hz h2⟩
  · cases hf
end

/-! ### callees -/
structure Cal (P : Program) (w : World) (K : PySem.W.Frag) (mg : Str → Option Value) (base : Heap) (k : Nat) (x : Str) (n : Nat) (o : List Da → Option Da) : Prop where
  ex : ∃ f fd ps, FnOk P w K mg base CX0 k f fd ps (spD K n o) ∧ mg x = some (.ref f) ∧ PySem.W.keepIn K (.ref f) = true ∧ Binds K fd ps []
theorem l_cons_len {f : Ef} {g : Lf} {n : Nat} (h : ∀ ρ ds, g ρ = some ds → ds.length = n) : ∀ ρ ds, l_cons f g ρ = some ds → ds.length = n + 1 := fun ρ ds e => by
  unfold l_cons at e
  obtain ⟨d, _, e⟩ := Option.bind_eq_some_iff.mp e
  obtain ⟨r, e2, e⟩ := Option.bind_eq_some_iff.mp e
  cases e
  rw [List.length_cons, h ρ r e2]
theorem l_nil_len : ∀ ρ ds, l_nil ρ = some ds → ds.length = 0 := fun ρ ds e => by cases e; rfl
section
variable {X : Cx} {k j n : Nat} {o : List Da → Option Da} {x : Str} {p pos : Pos} {e : Expr} {es : List Expr} {l : Lf}
theorem de_cal (C : Cal X.prog X.w X.K X.mg X.base k x n o) (hr : Room j X.A) (hkj : k ≤ j) (ha : DA X (e :: es) l) (hll : ∀ ρ ds, l ρ = some ds → ds.length = n) (hn : (e :: es).length = n := by rfl) (hg : Gl X x := by rfl) (hdb : (x == ("__debug__" : Str)) = false := by decide) (he : starEach (e :: es) X.env = (false, eval e X.env) :: starEach es X.env := by rfl) (hpl : (backTo pos (starEach es X.env)).any (·.1) = false := by rfl) :
    DE X (.Call (.Name x p) (e :: es) [] pos) (e_call o l) := by
  obtain ⟨f, fd, ps, F, m, kp, b⟩ := C.ex
  exact de_call F (hr.mono hkj) m kp b ha hn hll hg hdb he hpl
end
theorem cal_of {P : Program} {w : World} {K : PySem.W.Frag} {mg : Str → Option Value} {base : Heap} {x qual : Str} {params : Arguments} {body : List Stmt} {scope : Scope} {f : Addr} {fd : FuncData} {N ps : List Str} {k : Nat} {o : List Da → Option Da} {sf : Sf} {n : Nat}
    (D : FunD K x qual params body scope [] [] f fd) (m : mg x = some (.ref f)) (S : FnScope N ps scope) (hn : ps.length = n) (ho : ∀ ds r, o ds = some r → runD N.length sf ds = some r)
    (hb : ∀ (kV doc pm : Value) (an : Option Addr) (cdv ct : Value) (us : List Value), us.length = ps.length → bindArgs (PySem.W.fnOf x qual params body scope .none kV doc pm an cdv ct) ⟨us, []⟩ = pure (ps.zip us))
    (h : ∀ (cdv : Value) (A : Around) (outer : List Env) (s : Shared) (H : Hp) (E : XK), Room k (A.deeper (envOfC qual scope s.heap.objs.size f cdv)) → SEs (cxOf CX0 P w K mg base N qual scope f cdv A outer s H E).nox body sf) :
    Cal P w K mg base (k + 1) x n o := by
  subst hn
  exact ⟨f, fd, ps, def_ok D S ho h, m, D.kp, D.bindsN hb⟩
/-- the def's function of data: by its body -/
def defD (n nN : Nat) (sf : Sf) (ds : List Da) : Option Da := if ds.length = n then runD nN sf ds else none
theorem defD_run {n nN : Nat} {sf : Sf} : ∀ ds r, defD n nN sf ds = some r → runD nN sf ds = some r := fun ds r h => by
  unfold defD at h
  split at h
  · exact h
  · cases h
end DD
end

section
set_option Elab.async false
set_option linter.all false
set_option maxRecDepth 100000
set_option maxHeartbeats 2000000
/-! The data layer: two names at once. -/
namespace DD
open PySem PySem.Spec PyProof.Rows L2

def s_par_ii (i j : Nat) (f g : Ef) : Sf := fun ρ => (f ρ).bind fun d => (g ρ).bind fun e => some (.nx ((ρ.set i (.im d)).set j (.im e)))
def s_par_io (i j : Nat) (f : Ef) (g : Lf) : Sf := fun ρ => (f ρ).bind fun d => (g ρ).bind fun e => some (.nx ((ρ.set i (.im d)).set j (.ow e)))
def s_par_oi (i j : Nat) (f : Lf) (g : Ef) : Sf := fun ρ => (f ρ).bind fun d => (g ρ).bind fun e => some (.nx ((ρ.set i (.ow d)).set j (.im e)))
def s_par_oo (i j : Nat) (f : Lf) (g : Lf) : Sf := fun ρ => (f ρ).bind fun d => (g ρ).bind fun e => some (.nx ((ρ.set i (.ow d)).set j (.ow e)))
section
variable {X : Cx} {i j : Nat} {x y : Str} {a b : Expr} {fa fb : Ef} {la lb : Lf} {px py pt pos : Pos} {kt k2 : Nat} {pt2 : Pos}
theorem se_par_ii (hN : X.N.Nodup) (ha : DE X a fa) (hb : DE X b fb) (hi : X.N[i]? = some x := by rfl) (hj : X.N[j]? = some y := by rfl) (hij : i ≠ j := by decide)
    (hx : X.env.scope.names.lookup x = some .local := by rfl) (hy : X.env.scope.names.lookup y = some .local := by rfl) (hc : X.calm = true := by rfl)
    (h1 : starEach (a :: [b]) X.env = (false, eval a X.env) :: starEach [b] X.env := by rfl) (h2 : starEach (b :: []) X.env = (false, eval b X.env) :: starEach [] X.env := by rfl)
    (hw : swappedStores [.Tuple [.Name x px, .Name y py] kt pt] (.Tuple [a, b] k2 pt2) X.env = pure (some [x, y]) := by rfl)
    (hs : swapsWithSole [.Tuple [.Name x px, .Name y py] kt pt] (.Tuple [a, b] k2 pt2) pos.line X.env = pure false := by rfl) :
    SE X (.Assign [.Tuple [.Name x px, .Name y py] kt pt] (.Tuple [a, b] k2 pt2) pos) (s_par_ii i j fa fb) := fun G F0 H0 => by
  refine PS.imp (ps_par hc hN hi hj hij hx hy (pa_cons ha (pa_cons hb pa_nil h2) h1) hw hs) fun D σ H ⟨ρ, F, r, E, hf, q⟩ => ?_
  obtain ⟨d, e1, hf⟩ := Option.bind_eq_some_iff.mp hf
  obtain ⟨e, e2, hf⟩ := Option.bind_eq_some_iff.mp hf
  cases hf
  exact ⟨ρ, F, d, E.r, e1, fun v F1 H1 x1 hv => ⟨ρ, F1, e, (E.ext x1).r, e2, fun u F2 H2 x2 hu => ⟨v, u, rfl, q _ F2 H2 (x1.ff.trans x2.ff) ((((E.ext x1).ext x2).setIm i (hv.up x2.ff)).setIm j hu)⟩⟩⟩
theorem se_par_io (hN : X.N.Nodup) (ha : DE X a fa) (hb : DN X b lb) (hi : X.N[i]? = some x := by rfl) (hj : X.N[j]? = some y := by rfl) (hij : i ≠ j := by decide)
    (hx : X.env.scope.names.lookup x = some .local := by rfl) (hy : X.env.scope.names.lookup y = some .local := by rfl) (hc : X.calm = true := by rfl)
    (h1 : starEach (a :: [b]) X.env = (false, eval a X.env) :: starEach [b] X.env := by rfl) (h2 : starEach (b :: []) X.env = (false, eval b X.env) :: starEach [] X.env := by rfl)
    (hw : swappedStores [.Tuple [.Name x px, .Name y py] kt pt] (.Tuple [a, b] k2 pt2) X.env = pure (some [x, y]) := by rfl)
    (hs : swapsWithSole [.Tuple [.Name x px, .Name y py] kt pt] (.Tuple [a, b] k2 pt2) pos.line X.env = pure false := by rfl) :
    SE X (.Assign [.Tuple [.Name x px, .Name y py] kt pt] (.Tuple [a, b] k2 pt2) pos) (s_par_io i j fa lb) := fun G F0 H0 => by
  refine PS.imp (ps_par hc hN hi hj hij hx hy (pa_cons ha (pa_cons hb pa_nil h2) h1) hw hs) fun D σ H ⟨ρ, F, r, E, hf, q⟩ => ?_
  obtain ⟨d, e1, hf⟩ := Option.bind_eq_some_iff.mp hf
  obtain ⟨e, e2, hf⟩ := Option.bind_eq_some_iff.mp hf
  cases hf
  refine ⟨ρ, F, d, E.r, e1, fun v F1 H1 x1 hv => ⟨ρ, F1, e, (E.ext x1).r, e2, fun p xs F2 H2 x2 hF hH hp hz hu => ⟨v, .ref p, rfl, q _ F2 H2 (x1.ff.trans x2.ff) ?_⟩⟩⟩
  obtain ⟨own, A⟩ := (E.ext x1).setIm i hv
  obtain ⟨g1, g2, g3⟩ := A.fresh hH
  exact ⟨_, (A.ext x2).setOw j hp hz hF g2 g1 g3 hu⟩
theorem se_par_oi (hN : X.N.Nodup) (ha : DN X a la) (hb : DE X b fb) (hi : X.N[i]? = some x := by rfl) (hj : X.N[j]? = some y := by rfl) (hij : i ≠ j := by decide)
    (hx : X.env.scope.names.lookup x = some .local := by rfl) (hy : X.env.scope.names.lookup y = some .local := by rfl) (hc : X.calm = true := by rfl)
    (h1 : starEach (a :: [b]) X.env = (false, eval a X.env) :: starEach [b] X.env := by rfl) (h2 : starEach (b :: []) X.env = (false, eval b X.env) :: starEach [] X.env := by rfl)
    (hw : swappedStores [.Tuple [.Name x px, .Name y py] kt pt] (.Tuple [a, b] k2 pt2) X.env = pure (some [x, y]) := by rfl)
    (hs : swapsWithSole [.Tuple [.Name x px, .Name y py] kt pt] (.Tuple [a, b] k2 pt2) pos.line X.env = pure false := by rfl) :
    SE X (.Assign [.Tuple [.Name x px, .Name y py] kt pt] (.Tuple [a, b] k2 pt2) pos) (s_par_oi i j la fb) := fun G F0 H0 => by
  refine PS.imp (ps_par hc hN hi hj hij hx hy (pa_cons ha (pa_cons hb pa_nil h2) h1) hw hs) fun D σ H ⟨ρ, F, r, E, hf, q⟩ => ?_
  obtain ⟨d, e1, hf⟩ := Option.bind_eq_some_iff.mp hf
  obtain ⟨e, e2, hf⟩ := Option.bind_eq_some_iff.mp hf
  cases hf
  refine ⟨ρ, F, d, E.r, e1, fun p xs F1 H1 x1 hF hH hp hz hv => ⟨ρ, F1, e, (E.ext x1).r, e2, fun u F2 H2 x2 hu => ⟨.ref p, u, rfl, q _ F2 H2 (x1.ff.trans x2.ff) ?_⟩⟩⟩
  obtain ⟨own, A⟩ := E
  obtain ⟨g1, g2, g3⟩ := A.fresh hH
  have A2 := ((A.ext x1).ext x2).setOw i (x2.hh.lst hp) hz (x2.nw _ _ hp hF) g2 g1 g3 (hv.up x2.ff)
  exact EnvAt.setIm ⟨_, A2⟩ j hu
theorem se_par_oo (hN : X.N.Nodup) (ha : DN X a la) (hb : DN X b lb) (hi : X.N[i]? = some x := by rfl) (hj : X.N[j]? = some y := by rfl) (hij : i ≠ j := by decide)
    (hx : X.env.scope.names.lookup x = some .local := by rfl) (hy : X.env.scope.names.lookup y = some .local := by rfl) (hc : X.calm = true := by rfl)
    (h1 : starEach (a :: [b]) X.env = (false, eval a X.env) :: starEach [b] X.env := by rfl) (h2 : starEach (b :: []) X.env = (false, eval b X.env) :: starEach [] X.env := by rfl)
    (hw : swappedStores [.Tuple [.Name x px, .Name y py] kt pt] (.Tuple [a, b] k2 pt2) X.env = pure (some [x, y]) := by rfl)
    (hs : swapsWithSole [.Tuple [.Name x px, .Name y py] kt pt] (.Tuple [a, b] k2 pt2) pos.line X.env = pure false := by rfl) :
    SE X (.Assign [.Tuple [.Name x px, .Name y py] kt pt] (.Tuple [a, b] k2 pt2) pos) (s_par_oo i j la lb) := fun G F0 H0 => by
  refine PS.imp (ps_par hc hN hi hj hij hx hy (pa_cons ha (pa_cons hb pa_nil h2) h1) hw hs) fun D σ H ⟨ρ, F, r, E, hf, q⟩ => ?_
  obtain ⟨d, e1, hf⟩ := Option.bind_eq_some_iff.mp hf
  obtain ⟨e, e2, hf⟩ := Option.bind_eq_some_iff.mp hf
  cases hf
  refine ⟨ρ, F, d, E.r, e1, fun p xs F1 H1 x1 hF hH hp hz hv => ⟨ρ, F1, e, (E.ext x1).r, e2, fun p' xs' F2 H2 x2 hF' hH' hp' hz' hu => ⟨.ref p, .ref p', rfl, q _ F2 H2 (x1.ff.trans x2.ff) ?_⟩⟩⟩
  obtain ⟨own, A⟩ := E
  obtain ⟨g1, g2, g3⟩ := A.fresh hH
  have A1 := (A.ext x1).setOw i hp hz hF g2 g1 g3 hv
  obtain ⟨k1, k2, k3⟩ := A1.fresh hH'
  exact ⟨_, (A1.ext x2).setOw j hp' hz' hF' k2 k1 k3 hu⟩
end
end DD
end

section
set_option Elab.async false
set_option linter.all false
set_option maxRecDepth 100000
set_option maxHeartbeats 2000000
/-! The data layer: expressions that change lists of their own, and that raise. -/
namespace DD
open PySem PySem.Spec PyProof.Rows L2

theorem ite_t {A B : Prop} (h : A) : if true = true then A else B := by rw [if_pos rfl]; exact h
theorem ite_f {A B : Prop} (h : B) : if false = true then A else B := by rw [if_neg Bool.false_ne_true]; exact h
/-! ### what stays but for some lists -/
structure ExtP (P : Addr → Prop) (F H F' H' : Hp) : Prop where
  hh : ∀ a o, ¬ P a → NoTbl o → H a = some o → H' a = some o
  ht : ∀ a ps, H a = some (.tbl ps) → ∃ ps', H' a = some (.tbl ps')
  ff : Same F F'
  fh : Same F' H'
  nw : ∀ a o, H a = some o → F a = none → F' a = none
  tf : ∀ a ps, F' a = some (.tbl ps) → F a = some (.tbl ps)
  ex : ∀ a o, H a = some o → ∃ o', H' a = some o'
theorem ExtP.of {P : Addr → Prop} {F H F' H' : Hp} (x : Ext F H F' H') : ExtP P F H F' H' := ⟨fun a o _ n e => x.hh.o a o n e, x.hh.t, x.ff, x.fh, x.nw, x.tf, fun a o e => x.hh.some e⟩
theorem ExtP.refl {P : Addr → Prop} {F H : Hp} (s : Same F H) : ExtP P F H F H := .of (Ext.refl s)
theorem ExtP.trans {P : Addr → Prop} {F H F1 H1 F2 H2 : Hp} (x : ExtP P F H F1 H1) (y : ExtP P F1 H1 F2 H2) : ExtP P F H F2 H2 where
  hh := fun a o p n e => y.hh a o p n (x.hh a o p n e)
  ht := fun a ps e => let ⟨_, h1⟩ := x.ht a ps e; y.ht a _ h1
  ff := x.ff.trans y.ff
  fh := y.fh
  nw := fun a o e n => let ⟨_, h1⟩ := x.ex a o e; y.nw a _ h1 (x.nw a o e n)
  tf := fun a ps e => x.tf a ps (y.tf a ps e)
  ex := fun a o e => let ⟨_, h1⟩ := x.ex a o e; y.ex a _ h1
theorem ExtP.mono {P P' : Addr → Prop} {F H F' H' : Hp} (x : ExtP P F H F' H') (h : ∀ a, P a → P' a) : ExtP P' F H F' H' := ⟨fun a o p n e => x.hh a o (fun z => p (h a z)) n e, x.ht, x.ff, x.fh, x.nw, x.tf, x.ex⟩
theorem ExtP.non {P : Addr → Prop} {F H F' H' : Hp} (x : ExtP P F H F' H') {a : Addr} (h : H' a = none) : H a = none := by
  cases q : H a with
  | none => rfl
  | some o =>
    obtain ⟨_, e⟩ := x.ex a o q
    rw [h] at e; cases e
/-- a list of P is written -/
theorem ExtP.wr {P : Addr → Prop} {F H : Hp} {a : Addr} {xs : List V} {o : HO} (s : Same F H) (n : Nt F) (hp : P a) (hF : F a = none) (ho : H a = some (.lst xs)) : ExtP P F H F (upd H a o) where
  hh := fun b u p _ e => by rw [upd_ne (fun z => p (by rw [z]; exact hp))]; exact e
  ht := fun b ps e => ⟨ps, by
    rw [upd_ne (fun z => by subst z; rw [ho] at e; cases e)]; exact e⟩
  ff := Same.refl _
  fh := fun b u e => by rw [upd_ne (ne_of_none e hF)]; exact s _ _ e
  nw := fun _ _ _ n => n
  tf := fun _ _ e => e
  ex := fun b u e => by
    by_cases z : b = a
    · subst z; exact ⟨_, upd_same⟩
    · exact ⟨u, by rw [upd_ne z]; exact e⟩

/-- the lists of the names' own -/
def Own (own : Nat → List Addr) : Addr → Prop := fun a => ∃ i, a ∈ own i
section
variable {K : PySem.W.Frag} {G : List Addr} {F0 H0 : Hp} {ρ ρ' : DEnv} {σ : St} {F H F' H' : Hp} {own : Nat → List Addr}
theorem EnvA.move (h : EnvA K G F0 H0 own ρ σ F H) (x : ExtP (Own own) F H F' H') (hl : ρ'.length = ρ.length) (ent : ∀ i e s, ρ'[i]? = some e → σ[i]? = some s → EntOk K F' H' e s (own i)) (out : ∀ i a, a ∈ own i → ∃ xs, H' a = some (.lst xs))
    (gn : ∀ i : Nat, (∃ m : List Da, ρ'[i]? = some (Ent.gn m)) ↔ (∃ m : List Da, ρ[i]? = some (Ent.gn m))) : EnvA K G F0 H0 own ρ' σ F' H' where
  o := {
    sub := x.fh
    len := hl.trans h.o.len
    ent := ent
    out := fun i a ha => by
      obtain ⟨h1, o, h2⟩ := h.o.out i a ha
      exact ⟨x.nw a _ h2 h1, out i a ha⟩
    nt := fun a ps e => h.o.nt a ps (x.tf a ps e)
    sep := h.o.sep }
  x := {
    hh := fun a o hg n e => by
      refine x.hh a o (fun ⟨i, hi⟩ => ?_) n (h.x.hh a o hg n e)
      rcases h.fr i a hi with ⟨q, _⟩ | ⟨q, _⟩
      · rw [e] at q; cases q
      · exact hg q
    ht := fun a ps e => let ⟨_, h1⟩ := h.x.ht a ps e; x.ht a _ h1
    ff := h.x.ff.trans x.ff
    fh := x.fh
    nw := fun a o e n => by
      by_cases hg : a ∈ G
      · obtain ⟨_, _, xs, h'⟩ := h.g a hg
        exact x.nw a _ h' (h.x.nw a o e n)
      · obtain ⟨o', h'⟩ := h.x.has hg e
        exact x.nw a o' h' (h.x.nw a o e n)
    tf := fun a ps e => h.x.tf a ps (x.tf a ps e) }
  g := fun a ha => by
    obtain ⟨o, h1, xs, h2⟩ := h.g a ha
    refine ⟨o, h1, ?_⟩
    by_cases p : Own own a
    · obtain ⟨i, hi⟩ := p
      exact out i a hi
    · exact ⟨xs, x.hh a _ p noTbl_lst h2⟩
  fr := fun i a ha => by
    rcases h.fr i a ha with q | ⟨q, m⟩
    · exact .inl q
    · exact .inr ⟨q, (gn i).mpr m⟩
  gn := fun i m a e ha => by
    obtain ⟨m', e'⟩ := (gn i).mp ⟨m, e⟩
    exact h.gn i m' a e' ha
theorem EnvA.nt (h : EnvA K G F0 H0 own ρ σ F H) : Nt F := h.o.nt
theorem EnvA.sub (h : EnvA K G F0 H0 own ρ σ F H) : Same F H := h.o.sub

/-! ### results -/
end
inductive Ro (α : Type) where
  | ok (a : α) (ρ : DEnv)
  | er (k : Str) (d : Da) (ρ : DEnv)
abbrev Xf (α : Type) := DEnv → Option (Ro α)
def bindX {α β : Type} (f : Xf α) (g : α → Xf β) : Xf β := fun ρ => match f ρ with
  | some (.ok a ρ') => g a ρ'
  | some (.er k d ρ') => some (.er k d ρ')
  | none => none
def retX {α : Type} (o : Option α) : Xf α := fun ρ => o.map fun a => .ok a ρ
def x_of {α : Type} (f : DEnv → Option α) : Xf α := fun ρ => (f ρ).map fun a => .ok a ρ

/-- what stands around: the wish about exceptions, the state at the entry -/
structure En where
  K : PySem.W.Frag
  mg : Str → Option Value
  W : WX
  G : List Addr
  F0 : Hp
  H0 : Hp
/-- an exception of the class k that holds d -/
def ErIs (K : PySem.W.Frag) (mg : Str → Option Value) (F H : Hp) (cls : Value) (dx : Option Addr) (k : Str) (d : Da) : Prop :=
  ∃ (C b : Addr) (v : V), mg k = some (.ref C) ∧ cls = .ref C ∧ dx = some b ∧ H b = some (.xd [("value", v)]) ∧ Dv K F v d
abbrev EnvC (c : En) (own : Nat → List Addr) (ρ : DEnv) (σ : St) (F H : Hp) : Prop := EnvA c.K c.G c.F0 c.H0 own ρ σ F H
def roPost {α : Type} (c : En) (own : Nat → List Addr) (σ : St) (F H : Hp) (q : α → Hp → Hp → Prop) : Ro α → Prop
  | .ok a ρ' => ∀ F' H', ExtP (Own own) F H F' H' → EnvC c own ρ' σ F' H' → q a F' H'
  | .er k d ρ' => ∀ cls dx F' H', ExtP (Own own) F H F' H' → EnvC c own ρ' σ F' H' → ErIs c.K c.mg F' H' cls dx k d → c.W cls dx σ H'
section
variable {α β : Type} {c : En} {own : Nat → List Addr} {σ : St} {F H F1 H1 : Hp} {ρ : DEnv}
theorem roPost.up {q : α → Hp → Hp → Prop} {r : Ro α} (h : roPost c own σ F H q r) (x : ExtP (Own own) F H F1 H1) : roPost c own σ F1 H1 q r := by
  cases r with
  | ok a ρ' => exact fun F' H' y E => h F' H' (x.trans y) E
  | er k d ρ' => exact fun cls dx F' H' y E e => h cls dx F' H' (x.trans y) E e
/-- the next part of a sequence -/
def Nxt (c : En) (own : Nat → List Addr) (σ : St) (F H : Hp) (g : α → Xf β) (q : β → Hp → Hp → Prop) : α → Hp → Hp → Prop := fun a F1 H1 =>
  ExtP (Own own) F H F1 H1 ∧ ∃ ρ1 r, EnvC c own ρ1 σ F1 H1 ∧ g a ρ1 = some r ∧ roPost c own σ F1 H1 q r
theorem ro_step {f : Xf α} {g : α → Xf β} {q : β → Hp → Hp → Prop} {r : Ro β} (hf : bindX f g ρ = some r) (h : roPost c own σ F H q r) : ∃ r1, f ρ = some r1 ∧ roPost c own σ F H (Nxt c own σ F H g q) r1 := by
  unfold bindX at hf
  split at hf
  · rename_i a ρ' e
    exact ⟨_, e, fun F' H' x E => ⟨x, ρ', r, E, hf, h.up x⟩⟩
  · rename_i k d ρ' e
    cases hf
    exact ⟨_, e, h⟩
  · cases hf
theorem ro_ret {q : α → Hp → Hp → Prop} {o : Option α} {r : Ro α} (hf : retX o ρ = some r) (h : roPost c own σ F H q r) : ∃ a, o = some a ∧ r = .ok a ρ ∧ ∀ F' H', ExtP (Own own) F H F' H' → EnvC c own ρ σ F' H' → q a F' H' := by
  obtain ⟨a, e, rfl⟩ := Option.map_eq_some_iff.mp hf
  exact ⟨a, e, rfl, h⟩
theorem ro_of {q : α → Hp → Hp → Prop} {f : DEnv → Option α} {r : Ro α} (hf : x_of f ρ = some r) (h : roPost c own σ F H q r) : ∃ a, f ρ = some a ∧ ∀ F' H', ExtP (Own own) F H F' H' → EnvC c own ρ σ F' H' → q a F' H' := by
  obtain ⟨a, e, rfl⟩ := Option.map_eq_some_iff.mp hf
  exact ⟨a, e, h⟩
theorem roPost.mono {q q' : α → Hp → Hp → Prop} {r : Ro α} (h : roPost c own σ F H q r) (k : ∀ a F' H', q a F' H' → q' a F' H') : roPost c own σ F H q' r := by
  cases r with
  | ok a ρ' => exact fun F' H' y E => k _ _ _ (h F' H' y E)
  | er k d ρ' => exact h
end

def qD (K : PySem.W.Frag) (Q : VK) : Da → Hp → Hp → Prop := fun d F' H' => ∀ v, Dv K F' v d → Q v H'
def qT (Q : Bool → Hp → Prop) : Bool → Hp → Hp → Prop := fun b _ H' => Q b H'
def qA (K : PySem.W.Frag) (Q : List V → Hp → Prop) : List Da → Hp → Hp → Prop := fun ds F' H' => ∀ vs, DvAll K F' vs ds → Q vs H'
def qI (K : PySem.W.Frag) (R : It → Hp → Prop) : List Da → Hp → Hp → Prop := fun ds F' H' => ∀ J, Dlv K J F' ds → R J H'
def tX (c : En) (f : Xf Da) : TE := fun σ H Q => ∃ own ρ F r, EnvC c own ρ σ F H ∧ f ρ = some r ∧ roPost c own σ F H (qD c.K Q) r
def tXT (c : En) (f : Xf Bool) : TT := fun σ H Q => ∃ own ρ F r, EnvC c own ρ σ F H ∧ f ρ = some r ∧ roPost c own σ F H (qT Q) r
def tXA (c : En) (f : Xf (List Da)) : TA := fun σ H Q => ∃ own ρ F r, EnvC c own ρ σ F H ∧ f ρ = some r ∧ roPost c own σ F H (qA c.K Q) r
def tXI (c : En) (f : Xf (List Da)) : TI := fun σ H R => ∃ own ρ F r, EnvC c own ρ σ F H ∧ f ρ = some r ∧ roPost c own σ F H (qI c.K R) r
abbrev enOf (X : Cx) (W : WX) (G : List Addr) (F0 H0 : Hp) : En := ⟨X.K, X.mg, W, G, F0, H0⟩
abbrev DX (X : Cx) (W : WX) (e : Expr) (f : Xf Da) : Prop := ∀ G F0 H0, PE X e (tX (enOf X W G F0 H0) f)
abbrev DXT (X : Cx) (W : WX) (e : Expr) (f : Xf Bool) : Prop := ∀ G F0 H0, PT X e (tXT (enOf X W G F0 H0) f)
abbrev DXW (X : Cx) (W : WX) (e : Expr) (f : Xf Bool) : Prop := ∀ G F0 H0, PW X e (tXT (enOf X W G F0 H0) f)
abbrev DXA (X : Cx) (W : WX) (es : List Expr) (f : Xf (List Da)) : Prop := ∀ G F0 H0, PA X es (tXA (enOf X W G F0 H0) f)
abbrev DXI (X : Cx) (W : WX) (tg e : Expr) (f : Xf (List Da)) : Prop := ∀ G F0 H0, PI X tg e (tXI (enOf X W G F0 H0) f)

section
variable {X : Cx} {W : WX} {a b e : Expr} {es : List Expr} {f g : Xf Da} {fl : Xf (List Da)} {pos : Pos}
theorem dx_of {fe : Ef} (h : DE X e fe) : DX X W e (x_of fe) := fun G F0 H0 => PE.imp h fun σ H Q ⟨own, ρ, F, r, E, hf, q⟩ => by
  obtain ⟨d, h1, q⟩ := ro_of hf q
  exact ⟨ρ, F, d, ⟨own, E.o⟩, h1, fun v F' H' x hv => q F' H' (.of x) (E.ext x) v hv⟩
theorem dxt_of {ft : Tf} (h : DT X e ft) : DXT X W e (x_of ft) := fun G F0 H0 => PT.imp h fun σ H Q ⟨own, ρ, F, r, E, hf, q⟩ => by
  obtain ⟨d, h1, q⟩ := ro_of hf q
  exact ⟨ρ, F, d, ⟨own, E.o⟩, h1, fun F' H' x => q F' H' (.of x) (E.ext x)⟩
theorem dxa_of {l : Lf} (h : DA X es l) : DXA X W es (x_of l) := fun G F0 H0 => PA.imp h fun σ H Q ⟨own, ρ, F, r, E, hf, q⟩ => by
  obtain ⟨d, h1, q⟩ := ro_of hf q
  exact ⟨ρ, F, d, ⟨own, E.o⟩, h1, fun v F' H' x hv => q F' H' (.of x) (E.ext x) v hv⟩
theorem dxi_of {tg : Expr} {l : Lf} (h : DI X tg e l) : DXI X W tg e (x_of l) := fun G F0 H0 => PI.imp h fun σ H Q ⟨own, ρ, F, r, E, hf, q⟩ => by
  obtain ⟨d, h1, q⟩ := ro_of hf q
  exact ⟨ρ, F, d, ⟨own, E.o⟩, h1, fun J F' H' x hv => q F' H' (.of x) (E.ext x) J hv⟩
/-- argument lists -/
def xa_cons (f : Xf Da) (g : Xf (List Da)) : Xf (List Da) := bindX f fun d => bindX g fun ds => retX (some (d :: ds))
theorem dxa_nil : DXA X W [] (retX (some [])) := fun G F0 H0 => PA.imp pa_nil fun σ H Q ⟨own, ρ, F, r, E, hf, q⟩ => by
  cases hf
  exact q F H (.refl E.sub) E _ .nil
theorem dxa_cons (h : DX X W e f) (t : DXA X W es fl) (hs : starEach (e :: es) X.env = (false, eval e X.env) :: starEach es X.env := by rfl) : DXA X W (e :: es) (xa_cons f fl) := fun G F0 H0 => by
  refine PA.imp (pa_cons (h G F0 H0) (t G F0 H0) hs) fun σ H Q ⟨own, ρ, F, r, E, hf, q⟩ => ?_
  obtain ⟨r1, h1, q1⟩ := ro_step hf q
  refine ⟨own, ρ, F, r1, E, h1, q1.mono fun d F1 H1 ⟨x1, ρ1, r', E1, h2, q2⟩ v hv => ?_⟩
  obtain ⟨r2, h3, q3⟩ := ro_step h2 q2
  refine ⟨own, ρ1, F1, r2, E1, h3, q3.mono fun ds F2 H2 ⟨x2, ρ2, r'', E2, h4, q4⟩ vs hvs => ?_⟩
  cases h4
  exact q4 F2 H2 (.refl E2.sub) E2 _ (.cons (hv.up x2.ff) hvs)
/-- a op b -/
def x_bin (o : Da → Da → Option Da) (f g : Xf Da) : Xf Da := bindX f fun d => bindX g fun e => retX (o d e)
theorem xbin_read {c : En} {o : Da → Da → Option Da} {r : R2} (hr : ∀ x y H Q, rO c.K o x y H Q → r x y H Q) {σ : St} {H : Hp} {Q : VK} (h : tX c (x_bin o f g) σ H Q) : tOp r (tX c f) (tX c g) σ H Q := by
  obtain ⟨own, ρ, F, r, E, hf, q⟩ := h
  obtain ⟨r1, h1, q1⟩ := ro_step hf q
  refine ⟨own, ρ, F, r1, E, h1, q1.mono fun d F1 H1 ⟨x1, ρ1, r', E1, h2, q2⟩ v hv => ?_⟩
  obtain ⟨r2, h3, q3⟩ := ro_step h2 q2
  refine ⟨own, ρ1, F1, r2, E1, h3, q3.mono fun y F2 H2 ⟨x2, ρ2, r'', E2, h4, q4⟩ w hw => ?_⟩
  obtain ⟨z, ho, rfl, q5⟩ := ro_ret h4 q4
  exact hr _ _ _ _ ⟨F2, d, y, z, E2.sub, hv.up x2.ff, hw, ho, fun u F3 H3 x3 hu => q5 F3 H3 (.of x3) (E2.ext x3) u hu⟩
theorem dx_bin {op : Operator} {o : Da → Da → Option Da} (ho : DOp X (binaryOp op) o) (ha : DX X W a f) (hb : DX X W b g) : DX X W (.BinOp a op b pos) (x_bin o f g) := fun G F0 H0 => PE.imp (pe_op ho (ha G F0 H0) (hb G F0 H0)) fun _ _ _ h => xbin_read (fun _ _ _ _ z => z) h
theorem dx_cmp {op : CmpOp} {o : Da → Da → Option Da} (ho : DOp X (compareOp op) o) (ha : DX X W a f) (hb : DX X W b g) (hm : behindInMarks op b = false := by first | exact nomark _ | with_unfolding_all rfl) : DX X W (.Compare a [op] [b] pos) (x_bin o f g) := fun G F0 H0 => PE.imp (pe_cmpR ho (ha G F0 H0) (hb G F0 H0) hm) fun _ _ _ h => xbin_read (fun _ _ _ _ z => z) h
theorem dx_ix (ha : DX X W a f) (hb : DX X W b g) (hs : PlainIx b := by exact fun _ _ => rfl) : DX X W (.Subscript a b pos) (x_bin o_ix f g) := fun G F0 H0 => PE.imp (pe_ix ix_seq (ha G F0 H0) (hb G F0 H0) hs) fun _ _ _ h => xbin_read ix_read h
/-- truth of a bool -/
def xt_bool (f : Xf Da) : Xf Bool := bindX f fun d => retX (match d with
  | .bool b => some b
  | _ => none)
theorem xtest_read {c : En} {t : TE} {σ : St} {H : Hp} {Q : Bool → Hp → Prop} (ht : ∀ Q, tX c f σ H Q → t σ H Q) (h : tXT c (xt_bool f) σ H Q) : tTest t σ H Q := by
  obtain ⟨own, ρ, F, r, E, hf, q⟩ := h
  obtain ⟨r1, h1, q1⟩ := ro_step hf q
  refine ht _ ⟨own, ρ, F, r1, E, h1, q1.mono fun d F1 H1 ⟨x1, ρ1, r', E1, h2, q2⟩ v hv => ?_⟩
  obtain ⟨z, ho, rfl, q5⟩ := ro_ret h2 q2
  split at ho
  · cases ho; cases hv
    exact ⟨_, rfl, q5 F1 H1 (.refl E1.sub) E1⟩
  · cases ho
theorem dxt_cmp {op : CmpOp} {o : Da → Da → Option Da} (ho : DOp X (compareOp op) o) (ha : DX X W a f) (hb : DX X W b g) (hm : behindInMarks op b = false := by first | exact nomark _ | with_unfolding_all rfl) : DXT X W (.Compare a [op] [b] pos) (xt_bool (x_bin o f g)) := fun G F0 H0 =>
  PT.imp (pt_cmpR ho (ha G F0 H0) (hb G F0 H0) hm) fun _ _ _ h => xtest_read (fun _ z => xbin_read (fun _ _ _ _ z => z) z) h
def xt_val (f : Xf Da) : Xf Bool := bindX f fun d => retX (truth d)
theorem truth_read {K : PySem.W.Frag} {F H : Hp} {v : V} {d : Da} {b : Bool} (s : Same F H) (hv : Dv K F v d) (ht : truth d = some b) : TruV K v H b := by
  unfold truth at ht
  split at ht <;> (cases ht)
  · cases hv; rfl
  · cases hv; rfl
  · cases hv; rfl
  · cases hv with
    | lst h1 hz1 h2 => exact .inl ⟨_, SqL.of (s _ _ h1), by rw [isEmpty_len h2.len]⟩
  · cases hv with
    | tup h1 hz1 h2 => exact .inr (.inl ⟨_, SqT.of (s _ _ h1), by rw [isEmpty_len h2.len]⟩)
theorem dxt_val (ha : DX X W a f) (he : ∀ whole, isTrue a X.env whole = (do let v ← whole; standAt a.pos; holding [v] (truthy v)) := by intro _; rfl) : DXT X W a (xt_val f) := fun G F0 H0 => by
  refine PT.imp (pt_truth (ha G F0 H0) he) fun σ H Q ⟨own, ρ, F, r, E, hf, q⟩ => ?_
  obtain ⟨r1, h1, q1⟩ := ro_step hf q
  refine ⟨own, ρ, F, r1, E, h1, q1.mono fun d F1 H1 ⟨x1, ρ1, r', E1, h2, q2⟩ v hv => ?_⟩
  obtain ⟨z, ho, rfl, q5⟩ := ro_ret h2 q2
  exact ⟨z, truth_read E1.sub hv ho, q5 F1 H1 (.refl E1.sub) E1⟩
def xt_not (t : Xf Bool) : Xf Bool := bindX t fun b => retX (some (!b))
theorem dxt_not {t : Xf Bool} (ha : DXT X W a t) : DXT X W (.UnaryOp .Not a pos) (xt_not t) := fun G F0 H0 => by
  refine PT.imp (pt_not (ha G F0 H0)) fun σ H Q ⟨own, ρ, F, r, E, hf, q⟩ => ?_
  obtain ⟨r1, h1, q1⟩ := ro_step hf q
  refine ⟨own, ρ, F, r1, E, h1, q1.mono fun d F1 H1 ⟨x1, ρ1, r', E1, h2, q2⟩ => ?_⟩
  cases h2
  exact q2 F1 H1 (.refl E1.sub) E1
def x_not (f : Xf Da) : Xf Da := bindX f fun d => retX (match d with
  | .bool b => some (.bool (!b))
  | _ => none)
theorem dx_not (ha : DX X W a f) : DX X W (.UnaryOp .Not a pos) (x_not f) := fun G F0 H0 => by
  refine PE.imp (pe_not (ha G F0 H0)) fun σ H Q ⟨own, ρ, F, r, E, hf, q⟩ => ?_
  obtain ⟨r1, h1, q1⟩ := ro_step hf q
  refine ⟨own, ρ, F, r1, E, h1, q1.mono fun d F1 H1 ⟨x1, ρ1, r', E1, h2, q2⟩ v hv => ?_⟩
  obtain ⟨z, ho, rfl, q5⟩ := ro_ret h2 q2
  split at ho
  · cases ho; cases hv
    exact ⟨_, rfl, q5 F1 H1 (.refl E1.sub) E1 _ (.bl _)⟩
  · cases ho
def xt_and (t u : Xf Bool) : Xf Bool := bindX t fun b => if b = true then u else retX (some false)
def xt_or (t u : Xf Bool) : Xf Bool := bindX t fun b => if b = true then retX (some true) else u
theorem DXW.dt {t : Xf Bool} (h : DXW X W a t) : DXT X W a t := fun G F0 H0 => PW.pt (h G F0 H0)
theorem dxw_and1 {t : Xf Bool} (ha : DXT X W a t) : DXW X W (.BoolOp .And [a] pos) t := fun G F0 H0 => pw_and1 (ha G F0 H0)
theorem dxw_or1 {t : Xf Bool} (ha : DXT X W a t) : DXW X W (.BoolOp .Or [a] pos) t := fun G F0 H0 => pw_or1 (ha G F0 H0)
theorem dxw_and {t u : Xf Bool} {rest : List Expr} (ha : DXT X W a t) (hb : DXW X W (.BoolOp .And (b :: rest) pos) u) : DXW X W (.BoolOp .And (a :: b :: rest) pos) (xt_and t u) := fun G F0 H0 => by
  refine PW.imp (pw_and (ha G F0 H0) (hb G F0 H0)) fun σ H Q ⟨own, ρ, F, r, E, hf, q⟩ => ?_
  obtain ⟨r1, h1, q1⟩ := ro_step hf q
  refine ⟨own, ρ, F, r1, E, h1, q1.mono fun d F1 H1 ⟨x1, ρ1, r', E1, h2, q2⟩ => ?_⟩
  cases d with
  | true =>
    show if true = true then tXT (enOf X W G F0 H0) u σ H1 Q else Q false H1
    rw [if_pos rfl]
    exact ⟨own, ρ1, F1, r', E1, h2, q2⟩
  | false =>
    cases h2
    show if false = true then tXT (enOf X W G F0 H0) u σ H1 Q else Q false H1
    rw [if_neg Bool.false_ne_true]
    exact q2 F1 H1 (.refl E1.sub) E1
theorem dxw_or {t u : Xf Bool} {rest : List Expr} (ha : DXT X W a t) (hb : DXW X W (.BoolOp .Or (b :: rest) pos) u) : DXW X W (.BoolOp .Or (a :: b :: rest) pos) (xt_or t u) := fun G F0 H0 => by
  refine PW.imp (pw_or (ha G F0 H0) (hb G F0 H0)) fun σ H Q ⟨own, ρ, F, r, E, hf, q⟩ => ?_
  obtain ⟨r1, h1, q1⟩ := ro_step hf q
  refine ⟨own, ρ, F, r1, E, h1, q1.mono fun d F1 H1 ⟨x1, ρ1, r', E1, h2, q2⟩ => ?_⟩
  cases d with
  | true =>
    cases h2
    show if true = true then Q true H1 else tXT (enOf X W G F0 H0) u σ H1 Q
    rw [if_pos rfl]
    exact q2 F1 H1 (.refl E1.sub) E1
  | false =>
    show if false = true then Q true H1 else tXT (enOf X W G F0 H0) u σ H1 Q
    rw [if_neg Bool.false_ne_true]
    exact ⟨own, ρ1, F1, r', E1, h2, q2⟩
/-- and, or as values of bools -/
def x_and (f g : Xf Da) : Xf Da := bindX f fun d => match d with
  | .bool true => g
  | .bool false => retX (some (.bool false))
  | _ => retX none
def x_or (f g : Xf Da) : Xf Da := bindX f fun d => match d with
  | .bool false => g
  | .bool true => retX (some (.bool true))
  | _ => retX none
theorem dx_one {op} (h : DX X W a f) : DX X W (.BoolOp op [a] pos) f := fun G F0 H0 => pe_one (h G F0 H0)
theorem dx_and {rest : List Expr} (ha : DX X W a f) (hb : DX X W (.BoolOp .And (b :: rest) pos) g) : DX X W (.BoolOp .And (a :: b :: rest) pos) (x_and f g) := fun G F0 H0 => by
  refine PE.imp (pe_and (ha G F0 H0) (hb G F0 H0)) fun σ H Q ⟨own, ρ, F, r, E, hf, q⟩ => ?_
  obtain ⟨r1, h1, q1⟩ := ro_step hf q
  refine ⟨own, ρ, F, r1, E, h1, q1.mono fun d F1 H1 ⟨x1, ρ1, r', E1, h2, q2⟩ v hv => ?_⟩
  dsimp only at h2
  split at h2
  · cases hv
    refine ⟨true, rfl, ?_⟩
    refine ite_t ?_
    exact ⟨own, ρ1, F1, r', E1, h2, q2⟩
  · cases hv; cases h2
    refine ⟨false, rfl, ?_⟩
    refine ite_f ?_
    exact q2 F1 H1 (.refl E1.sub) E1 _ (.bl false)
  · cases h2
theorem dx_or {rest : List Expr} (ha : DX X W a f) (hb : DX X W (.BoolOp .Or (b :: rest) pos) g) : DX X W (.BoolOp .Or (a :: b :: rest) pos) (x_or f g) := fun G F0 H0 => by
  refine PE.imp (pe_or (ha G F0 H0) (hb G F0 H0)) fun σ H Q ⟨own, ρ, F, r, E, hf, q⟩ => ?_
  obtain ⟨r1, h1, q1⟩ := ro_step hf q
  refine ⟨own, ρ, F, r1, E, h1, q1.mono fun d F1 H1 ⟨x1, ρ1, r', E1, h2, q2⟩ v hv => ?_⟩
  dsimp only at h2
  split at h2
  · cases hv
    refine ⟨false, rfl, ?_⟩
    refine ite_f ?_
    exact ⟨own, ρ1, F1, r', E1, h2, q2⟩
  · cases hv; cases h2
    refine ⟨true, rfl, ?_⟩
    refine ite_t ?_
    exact q2 F1 H1 (.refl E1.sub) E1 _ (.bl true)
  · cases h2
def x_if (t : Xf Bool) (f g : Xf Da) : Xf Da := bindX t fun b => if b = true then f else g
theorem dx_if {t : Xf Bool} {c : Expr} (hc : DXT X W c t) (ha : DX X W a f) (hb : DX X W b g) : DX X W (.IfExp c a b pos) (x_if t f g) := fun G F0 H0 => by
  refine PE.imp (pe_ifExp (hc G F0 H0) (ha G F0 H0) (hb G F0 H0)) fun σ H Q ⟨own, ρ, F, r, E, hf, q⟩ => ?_
  obtain ⟨r1, h1, q1⟩ := ro_step hf q
  refine ⟨own, ρ, F, r1, E, h1, q1.mono fun d F1 H1 ⟨x1, ρ1, r', E1, h2, q2⟩ => ?_⟩
  cases d with
  | true =>
    show if true = true then tX (enOf X W G F0 H0) f σ H1 Q else tX (enOf X W G F0 H0) g σ H1 Q
    rw [if_pos rfl]
    exact ⟨own, ρ1, F1, r', E1, h2, q2⟩
  | false =>
    show if false = true then tX (enOf X W G F0 H0) f σ H1 Q else tX (enOf X W G F0 H0) g σ H1 Q
    rw [if_neg Bool.false_ne_true]
    exact ⟨own, ρ1, F1, r', E1, h2, q2⟩
/-! displays, slices -/
def x_lst (l : Xf (List Da)) : Xf Da := bindX l fun ds => retX (if ds.length ≤ sizeLine then some (.list ds) else none)
def x_tup (l : Xf (List Da)) : Xf Da := bindX l fun ds => retX (if ds.length ≤ sizeLine then some (.tuple ds) else none)
theorem dx_lst (h : DXA X W es fl) : DX X W (.List es pos) (x_lst fl) := fun G F0 H0 => by
  refine PE.imp (pe_lst (h G F0 H0)) fun σ H Q ⟨own, ρ, F, r, E, hf, q⟩ => ?_
  obtain ⟨r1, h1, q1⟩ := ro_step hf q
  refine ⟨own, ρ, F, r1, E, h1, q1.mono fun ds F1 H1 ⟨x1, ρ1, r', E1, h2, q2⟩ vs hv => ?_⟩
  obtain ⟨z, ho, rfl, q5⟩ := ro_ret h2 q2
  split at ho
  · rename_i hle
    cases ho
    refine ⟨by rw [hv.len]; exact hle, fun p hp => ?_⟩
    have y := Ext.new (o := .lst vs) E1.sub hp
    exact q5 _ _ (.of y) (E1.ext y) _ (.lst upd_same (by rw [hv.len]; exact hle) (hv.up y.ff))
  · cases ho
theorem dx_tup {k} (h : DXA X W es fl) : DX X W (.Tuple es k pos) (x_tup fl) := fun G F0 H0 => by
  refine PE.imp (pe_tup (h G F0 H0)) fun σ H Q ⟨own, ρ, F, r, E, hf, q⟩ => ?_
  obtain ⟨r1, h1, q1⟩ := ro_step hf q
  refine ⟨own, ρ, F, r1, E, h1, q1.mono fun ds F1 H1 ⟨x1, ρ1, r', E1, h2, q2⟩ vs hv => ?_⟩
  obtain ⟨z, ho, rfl, q5⟩ := ro_ret h2 q2
  split at ho
  · rename_i hle
    cases ho
    refine ⟨by rw [hv.len]; exact hle, fun p hp => ?_⟩
    have y := Ext.new (o := .tup vs) E1.sub hp
    exact q5 _ _ (.of y) (E1.ext y) _ (.tup upd_same (by rw [hv.len]; exact hle) (hv.up y.ff))
  · cases ho
def tXO (c : En) (f : Xf (Option Int)) : TO := fun σ H Q => ∃ own ρ F r, EnvC c own ρ σ F H ∧ f ρ = some r ∧ roPost c own σ F H (fun o _ H' => Q o H') r
abbrev DXO (X : Cx) (W : WX) (e : Option Expr) (f : Xf (Option Int)) : Prop := ∀ G F0 H0, PO X e (tXO (enOf X W G F0 H0) f)
theorem dxo_no : DXO X W none (retX (some none)) := fun G F0 H0 => PO.imp po_none fun σ H Q ⟨own, ρ, F, r, E, hf, q⟩ => by
  cases hf
  exact q F H (.refl E.sub) E
def xp_at (f : Xf Da) : Xf (Option Int) := bindX f fun d => retX (match d with
  | .int i => some (some i)
  | _ => none)
theorem dxo_at (ha : DX X W a f) : DXO X W (some a) (xp_at f) := fun G F0 H0 => by
  refine PO.imp (po_some (ha G F0 H0)) fun σ H Q ⟨own, ρ, F, r, E, hf, q⟩ => ?_
  obtain ⟨r1, h1, q1⟩ := ro_step hf q
  refine ⟨own, ρ, F, r1, E, h1, q1.mono fun d F1 H1 ⟨x1, ρ1, r', E1, h2, q2⟩ v hv => ?_⟩
  obtain ⟨z, ho, rfl, q5⟩ := ro_ret h2 q2
  split at ho
  · cases ho; cases hv
    exact ⟨_, rfl, q5 F1 H1 (.refl E1.sub) E1⟩
  · cases ho
def x_cut (f : Xf Da) (l h : Xf (Option Int)) : Xf Da := bindX f fun d => bindX l fun lo => bindX h fun hi => retX (o_cut d lo hi)
theorem dx_cut {lo hi : Option Expr} {l h : Xf (Option Int)} {p2 : Pos} (ha : DX X W a f) (hl : DXO X W lo l) (hh : DXO X W hi h) : DX X W (.Subscript a (.Slice lo hi none p2) pos) (x_cut f l h) := fun G F0 H0 => by
  refine PE.imp (pe_slice sl_data (ha G F0 H0) (hl G F0 H0) (hh G F0 H0)) fun σ H Q ⟨own, ρ, F, r, E, hf, q⟩ => ?_
  obtain ⟨r1, h1, q1⟩ := ro_step hf q
  refine ⟨own, ρ, F, r1, E, h1, q1.mono fun d F1 H1 ⟨x1, ρ1, r', E1, h2, q2⟩ v hv => ?_⟩
  obtain ⟨r2, h3, q3⟩ := ro_step h2 q2
  refine ⟨own, ρ1, F1, r2, E1, h3, q3.mono fun i F2 H2 ⟨x2, ρ2, r'', E2, h4, q4⟩ => ?_⟩
  obtain ⟨r3, h5, q5⟩ := ro_step h4 q4
  refine ⟨own, ρ2, F2, r3, E2, h5, q5.mono fun j F3 H3 ⟨x3, ρ3, r3', E3, h6, q6⟩ => ?_⟩
  obtain ⟨z, ho, rfl, q7⟩ := ro_ret h6 q6
  exact ⟨F3, d, z, E3.sub, (hv.up x2.ff).up x3.ff, ho, fun w F4 H4 x4 hw => q7 F4 H4 (.of x4) (E3.ext x4) w hw⟩
end
end DD
end

section
set_option Elab.async false
set_option linter.all false
set_option maxRecDepth 100000
set_option maxHeartbeats 2000000
/-! The data layer: lists of their own changed in expressions, comprehensions that draw, statements, promises. -/
namespace DD
open PySem PySem.Spec PyProof.Rows L2

def lsOf : Ent → Option (List Da)
  | .ow ds => some ds
  | .gn ds => some ds
  | _ => none
def lsTo : Ent → List Da → Ent
  | .gn _, ds => .gn ds
  | _, ds => .ow ds
section
variable {K : PySem.W.Frag} {G : List Addr} {F0 H0 : Hp} {ρ ρ' : DEnv} {σ : St} {F H F' H' : Hp} {own : Nat → List Addr} {i : Nat} {e : Ent} {ds ds' : List Da}
theorem EnvA.lsAt (h : EnvA K G F0 H0 own ρ σ F H) (hi : ρ[i]? = some e) (he : lsOf e = some ds) : ∃ a xs, σ[i]? = some (some (.ref a)) ∧ own i = [a] ∧ H a = some (.lst xs) ∧ xs.length ≤ sizeLine ∧ DvAll K F xs ds ∧ F a = none := by
  obtain ⟨s, hs, q⟩ := h.at hi
  have ho : own i = own i := rfl
  generalize hg : own i = as at q
  cases q with
  | no => cases he
  | im _ => cases he
  | ow h1 hz h2 =>
    cases he
    rename_i a xs
    exact ⟨a, xs, hs, rfl, h1, hz, h2, (h.o.out i a (by rw [hg]; exact List.mem_singleton.mpr rfl)).1⟩
  | gn h1 hz h2 =>
    cases he
    rename_i a xs
    exact ⟨a, xs, hs, rfl, h1, hz, h2, (h.o.out i a (by rw [hg]; exact List.mem_singleton.mpr rfl)).1⟩
theorem lsTo_gn {e : Ent} {ds ds' : List Da} (he : lsOf e = some ds) : (∃ m, lsTo e ds' = .gn m) ↔ ∃ m, e = .gn m := by
  cases e with
  | no => cases he
  | im _ => cases he
  | ow _ => exact ⟨fun ⟨_, z⟩ => (nomatch z), fun ⟨_, z⟩ => (nomatch z)⟩
  | gn m => exact ⟨fun _ => ⟨m, rfl⟩, fun _ => ⟨ds', rfl⟩⟩
theorem lsTo_ok {a : Addr} {xs : List V} (he : lsOf e = some ds) (h1 : H a = some (.lst xs)) (hz : xs.length ≤ sizeLine) (h2 : DvAll K F xs ds') : EntOk K F H (lsTo e ds') (some (.ref a)) [a] := by
  cases e with
  | no => cases he
  | im _ => cases he
  | ow _ => exact .ow h1 hz h2
  | gn _ => exact .gn h1 hz h2
/-- a list of a name's own is another one, nothing else but new objects -/
theorem EnvA.lsNew (h : EnvA K G F0 H0 own ρ σ F H) (hi : ρ[i]? = some e) (he : lsOf e = some ds) {a : Addr} {xs' : List V} (ha : σ[i]? = some (some (.ref a))) (x : ExtP (Own own) F H F' H') (hx : ∀ b o, b ≠ a → NoTbl o → H b = some o → H' b = some o) (h1 : H' a = some (.lst xs')) (hz : xs'.length ≤ sizeLine) (h2 : DvAll K F' xs' ds') :
    EnvA K G F0 H0 own (ρ.set i (lsTo e ds')) σ F' H' := by
  obtain ⟨b, xs, hs, ho, g1, _, g2, gF⟩ := h.lsAt hi he
  rw [ha] at hs; cases hs
  have hil : i < ρ.length := (List.getElem?_eq_some_iff.mp hi).1
  refine h.move x (by simp) (fun j e' s q1 q2 => ?_) (fun j c hc => ?_) fun j => ?_
  · by_cases hj : j = i
    · subst hj
      rw [List.getElem?_set_self hil] at q1
      cases q1
      rw [ha] at q2; cases q2
      rw [ho]
      exact lsTo_ok he h1 hz h2
    · rw [List.getElem?_set_ne (Ne.symm hj)] at q1
      have q := h.o.ent j e' s q1 q2
      have hn : a ∉ own j := fun z => hj (h.o.sep j i a z (by rw [ho]; exact List.mem_singleton.mpr rfl))
      generalize own j = as at q hn
      cases q with
      | no => exact .no
      | im q => exact .im (q.up x.ff)
      | ow k1 kz k2 => exact .ow (hx _ _ (fun z => hn (by simp [z])) noTbl_lst k1) kz (k2.up x.ff)
      | gn k1 kz k2 => exact .gn (hx _ _ (fun z => hn (by simp [z])) noTbl_lst k1) kz (k2.up x.ff)
  · by_cases hca : c = a
    · subst hca; exact ⟨_, h1⟩
    · obtain ⟨_, o, k⟩ := h.o.out j c hc
      exact ⟨o, hx _ _ hca noTbl_lst k⟩
  · by_cases hj : j = i
    · subst hj
      rw [List.getElem?_set_self hil, hi]
      constructor
      · rintro ⟨m, z⟩
        obtain ⟨m', z'⟩ := (lsTo_gn he).mp ⟨m, Option.some.inj z⟩
        exact ⟨m', by rw [z']⟩
      · rintro ⟨m, z⟩
        obtain ⟨m', z'⟩ := (lsTo_gn (ds' := ds') he).mpr ⟨m, Option.some.inj z⟩
        exact ⟨m', by rw [z']⟩
    · rw [List.getElem?_set_ne (Ne.symm hj)]
theorem EnvA.lsPut (h : EnvA K G F0 H0 own ρ σ F H) (hi : ρ[i]? = some e) (he : lsOf e = some ds) {a : Addr} {xs' : List V} (ha : σ[i]? = some (some (.ref a))) (hz : xs'.length ≤ sizeLine) (h2 : DvAll K F xs' ds') :
    EnvA K G F0 H0 own (ρ.set i (lsTo e ds')) σ F (upd H a (.lst xs')) ∧ ExtP (Own own) F H F (upd H a (.lst xs')) := by
  obtain ⟨b, xs, hs, ho, g1, _, g2, gF⟩ := h.lsAt hi he
  rw [ha] at hs; cases hs
  have x : ExtP (Own own) F H F (upd H a (.lst xs')) := ExtP.wr h.sub h.nt ⟨i, by rw [ho]; exact List.mem_singleton.mpr rfl⟩ gF g1
  exact ⟨h.lsNew hi he ha x (fun b o hb _ q => by rw [upd_ne hb]; exact q) upd_same hz h2, x⟩
end

/-! ### pop -/
theorem DvAll.erase {K : PySem.W.Frag} {F : Hp} : ∀ {vs : List V} {ds : List Da} (k : Nat), DvAll K F vs ds → DvAll K F (vs.eraseIdx k) (ds.eraseIdx k)
  | _, _, _, .nil => .nil
  | _, _, 0, .cons _ t => t
  | _, _, k + 1, .cons h t => .cons h (DvAll.erase k t)
theorem DvAll.setD {K : PySem.W.Frag} {F : Hp} {v : V} {d : Da} (hv : Dv K F v d) : ∀ {vs : List V} {ds : List Da} (k : Nat), DvAll K F vs ds → DvAll K F (vs.set k v) (ds.set k d)
  | _, _, _, .nil => .nil
  | _, _, 0, .cons _ t => .cons hv t
  | _, _, k + 1, .cons h t => .cons h (DvAll.setD hv k t)
def popAt (i : Nat) (d : Da) : Xf Da := fun ρ => match ρ[i]?, d with
  | some e, .int k => match lsOf e with
    | some ds => match ixN ds.length k with
      | some j => match ds[j]? with
        | some y => some (.ok y (ρ.set i (lsTo e (ds.eraseIdx j))))
        | none => none
      | none => none
    | none => none
  | _, _ => none
def ifOwn {α : Type} (i : Nat) (f : Xf α) : Xf α := fun ρ => match ρ[i]? with
  | some en => match lsOf en with
    | some _ => f ρ
    | none => none
  | none => none
def x_pop (i : Nat) (f : Xf Da) : Xf Da := ifOwn i (bindX f (popAt i))
section
variable {X : Cx} {W : WX} {a b e : Expr} {es : List Expr} {f g : Xf Da} {fl : Xf (List Da)} {pos apos : Pos}
/-- the value of a name at its slot stays over an expression -/
theorem slot_own {c : En} {own : Nat → List Addr} {ρ : DEnv} {σ : St} {F H : Hp} (E : EnvC c own ρ σ F H) {i : Nat} {e : Ent} {ds : List Da} (hi : ρ[i]? = some e) (he : lsOf e = some ds) : ∃ a xs, σ[i]? = some (some (.ref a)) ∧ own i = [a] ∧ H a = some (.lst xs) ∧ xs.length ≤ sizeLine ∧ DvAll c.K F xs ds ∧ F a = none := E.lsAt hi he
theorem pop_line {xs : List V} {n j : Nat} {k : Int} (hz : n ≤ sizeLine) (h : ixN n k = some j) : -(2 ^ 63) ≤ k ∧ k < 2 ^ 63 ∧ seqIndex? k n = some j := by
  obtain ⟨h1, h2, h3, h4⟩ := ixN_seq h
  have := line63
  refine ⟨?_, ?_, h1⟩ <;> omega
theorem dx_pop (i : Nat) {ec : Expr} (hc : ∀ (t : TE), PE X e t → PE X ec (tBM X.K "list" rPopAt (tVar i) (tCons t tNil))) (hf : DX X W e f) : DX X W ec (x_pop i f) := fun G F0 H0 => by
  refine PE.imp (hc _ (hf G F0 H0)) fun σ H Q ⟨own, ρ, F, r, E, hf, q⟩ => ?_
  unfold x_pop ifOwn at hf
  split at hf
  · rename_i en hen
    split at hf
    · rename_i ds0 hds0
      obtain ⟨a, xs, hs, ho, h1, hz, h2, hF⟩ := E.lsAt hen hds0
      obtain ⟨r1, g1, q1⟩ := ro_step hf q
      refine ⟨_, hs, .inl ⟨rfl, xs, SqL.of h1⟩, own, ρ, F, r1, E, g1, q1.mono fun d F1 H1 ⟨x1, ρ1, r', E1, g2, q2⟩ v hv => ?_⟩
      unfold popAt at g2
      split at g2
      · rename_i en1 k hen1 _
        split at g2
        · rename_i ds hds
          split at g2
          · rename_i j hj
            split at g2
            · rename_i y hy
              cases g2
              obtain ⟨a1, xs1, hs1, ho1, k1, kz, k2, kF⟩ := E1.lsAt hen1 hds
              rw [hs] at hs1; cases hs1
              cases hv
              obtain ⟨w, hw, hwy⟩ := k2.getD hy
              obtain ⟨l1, l2, l3⟩ := pop_line (xs := xs1) (by rw [← k2.len]; exact kz) hj
              refine ⟨a, xs1, k, j, w, rfl, rfl, k1, l1, l2, by rw [k2.len]; exact l3, hw, ?_⟩
              obtain ⟨E2, x2⟩ := E1.lsPut hen1 hds hs (xs' := xs1.eraseIdx j) (ds' := ds.eraseIdx j) (by have := List.length_eraseIdx_le xs1 j; omega) (k2.erase j)
              exact q2 _ _ x2 E2 _ hwy
            · cases g2
          · cases g2
        · cases g2
      · cases g2
    · cases hf
  · cases hf
/-! ### calls of built-ins, of pure defs, with arguments that draw -/
def x_call (o : List Da → Option Da) (l : Xf (List Da)) : Xf Da := bindX l fun ds => retX (o ds)
theorem xcall_read {c : En} {o : List Da → Option Da} {σ : St} {H : Hp} {Q : VK} (h : tX c (x_call o fl) σ H Q) : tCB (rC c.K o) (tXA c fl) σ H Q := by
  obtain ⟨own, ρ, F, r, E, hf, q⟩ := h
  obtain ⟨r1, h1, q1⟩ := ro_step hf q
  refine ⟨own, ρ, F, r1, E, h1, q1.mono fun ds F1 H1 ⟨x1, ρ1, r', E1, h2, q2⟩ vs hvs => ?_⟩
  obtain ⟨z, ho, rfl, q5⟩ := ro_ret h2 q2
  exact ⟨F1, ds, z, E1.sub, hvs, ho, fun v F2 H2 x2 hw => q5 F2 H2 (.of x2) (E1.ext x2) v hw⟩
theorem dx_callB {x : Str} {p : Pos} {o : List Da → Option Da} {id : String} (hc : DC X (.builtin id) o) (hm : X.mg x = none) (hv : bootBuiltins x = some (.builtin id)) (ha : DXA X W (e :: es) fl) (hg : Gl X x := by rfl) (hn : x ≠ "__name__" := by decide) (hdb : (x == ("__debug__" : Str)) = false := by decide)
    (he : starEach (e :: es) X.env = (false, eval e X.env) :: starEach es X.env := by rfl) (hpl : (backTo pos (starEach es X.env)).any (·.1) = false := by rfl) : DX X W (.Call (.Name x p) (e :: es) [] pos) (x_call o fl) := fun G F0 H0 =>
  PE.imp (pe_callB hc hg hm hv (ha G F0 H0) hn hdb he hpl) fun _ _ _ h => xcall_read h
theorem dx_callT {x : Str} {p : Pos} {o : List Da → Option Da} {T : String} (hc : DC X (.type T) o) (hm : X.mg x = none) (hv : bootBuiltins x = some (.type T)) (ha : DXA X W (e :: es) fl) (hg : Gl X x := by rfl) (hn : x ≠ "__name__" := by decide) (hdb : (x == ("__debug__" : Str)) = false := by decide)
    (he : starEach (e :: es) X.env = (false, eval e X.env) :: starEach es X.env := by rfl) (hpl : (backTo pos (starEach es X.env)).any (·.1) = false := by rfl) : DX X W (.Call (.Name x p) (e :: es) [] pos) (x_call o fl) := fun G F0 H0 =>
  PE.imp (pe_callTy hc hg hm hv (ha G F0 H0) hn hdb he hpl) fun _ _ _ h => xcall_read h
theorem xcal_read {c : En} {n : Nat} {o : List Da → Option Da} {σ : St} {H : Hp} {Q : VK} (h : tX c (x_call (fun ds => if ds.length = n then o ds else none) fl) σ H Q) {E : XK} : tCall (spD c.K n o) [] E (tXA c fl) σ H Q := by
  obtain ⟨own, ρ, F, r, E, hf, q⟩ := h
  obtain ⟨r1, h1, q1⟩ := ro_step hf q
  refine ⟨own, ρ, F, r1, E, h1, q1.mono fun ds F1 H1 ⟨x1, ρ1, r', E1, h2, q2⟩ vs hvs => ?_⟩
  obtain ⟨z, ho, rfl, q5⟩ := ro_ret h2 q2
  dsimp only at ho
  split at ho
  · rename_i hn
    exact ⟨by rw [List.append_nil, hvs.len]; exact hn, F1, ds, z, E1.sub, E1.nt, by rw [List.append_nil]; exact hvs, ho, fun v F2 H2 x2 hw => q5 F2 H2 (.of x2) (E1.ext x2) v hw⟩
  · cases ho
/-- a pure def, its arguments drawn -/
theorem dx_cal {k j n : Nat} {x : Str} {p : Pos} {o : List Da → Option Da} (C : Cal X.prog X.w X.K X.mg X.base k x n o) (hr : Room j X.A) (hkj : k ≤ j) (ha : DXA X W (e :: es) fl) (hg : Gl X x := by rfl) (hdb : (x == ("__debug__" : Str)) = false := by decide) (he : starEach (e :: es) X.env = (false, eval e X.env) :: starEach es X.env := by rfl) (hpl : (backTo pos (starEach es X.env)).any (·.1) = false := by rfl) :
    DX X W (.Call (.Name x p) (e :: es) [] pos) (x_call (fun ds => if ds.length = n then o ds else none) fl) := fun G F0 H0 => by
  obtain ⟨f, fd, ps, F, m, kp, b⟩ := C.ex
  exact PE.imp (pe_call F (hr.mono hkj) hg m kp b .nil pass0 (ha G F0 H0) hdb he hpl) fun _ _ _ h => xcal_read h
end

/-! ### promises of defs that raise, or that change a list -/
inductive Rp where
  | ok (d : Da)
  | er (k : Str) (d : Da)
def rpPost (K : PySem.W.Frag) (mg : Str → Option Value) (q : V → Hp → Hp → Prop) (e : Value → Option Addr → Hp → Hp → Prop) (F' H' : Hp) : Rp → Prop
  | .ok d => ∀ v, Dv K F' v d → q v F' H'
  | .er k d => ∀ cls dx, ErIs K mg F' H' cls dx k d → e cls dx F' H'
/-- n arguments that stand for data -/
def spX (K : PySem.W.Frag) (mg : Str → Option Value) (n : Nat) (o : List Da → Option Rp) : Sp := fun vs H Q E => vs.length = n ∧ ∃ F ds r, Same F H ∧ Nt F ∧ DvAll K F vs ds ∧ o ds = some r ∧ ∀ F' H', Ext F H F' H' → rpPost K mg (fun v _ H' => Q v H') (fun cls dx _ H' => E cls dx H') F' H' r
/-- a list that is changed, then n arguments that stand for data -/
def spG (K : PySem.W.Frag) (mg : Str → Option Value) (n : Nat) (o : List Da → List Da → Option (Rp × List Da)) : Sp := fun vs H Q E => vs.length = n + 1 ∧ ∃ (a : Addr) (ws xs : List V) (F : Hp) (gs ds : List Da) (r : Rp × List Da), vs = .ref a :: ws ∧ Same F H ∧ Nt F ∧ F a = none ∧ H a = some (.lst xs) ∧ xs.length ≤ sizeLine ∧ DvAll K F xs gs ∧ DvAll K F ws ds ∧ o gs ds = some r ∧
  ∀ xs' F' H', ExtG [a] F H F' H' → H' a = some (.lst xs') → xs'.length ≤ sizeLine → DvAll K F' xs' r.2 → rpPost K mg (fun v _ H' => Q v H') (fun cls dx _ H' => E cls dx H') F' H' r.1
theorem ExtG.toP {a : Addr} {F H F' H' : Hp} (x : ExtG [a] F H F' H') {xs : List V} (h : H' a = some (.lst xs)) {P : Addr → Prop} (hp : P a) : ExtP P F H F' H' where
  hh := fun b o p n e => x.hh b o (fun z => p (by rw [List.mem_singleton.mp z]; exact hp)) n e
  ht := x.ht
  ff := x.ff
  fh := x.fh
  nw := x.nw
  tf := x.tf
  ex := fun b o e => by
    by_cases hb : b = a
    · subst hb; exact ⟨_, h⟩
    · exact x.has (by simpa using hb) e
structure CalX (P : Program) (w : World) (K : PySem.W.Frag) (mg : Str → Option Value) (base : Heap) (k : Nat) (x : Str) (n : Nat) (o : List Da → Option Rp) : Prop where
  ex : ∃ f fd ps, FnOk P w K mg base (L2.CX P w) k f fd ps (spX K mg n o) ∧ mg x = some (.ref f) ∧ PySem.W.keepIn K (.ref f) = true ∧ Binds K fd ps []
structure CalG (P : Program) (w : World) (K : PySem.W.Frag) (mg : Str → Option Value) (base : Heap) (k : Nat) (x : Str) (n : Nat) (o : List Da → List Da → Option (Rp × List Da)) : Prop where
  ex : ∃ f fd ps, FnOk P w K mg base (L2.CX P w) k f fd ps (spG K mg n o) ∧ mg x = some (.ref f) ∧ PySem.W.keepIn K (.ref f) = true ∧ Binds K fd ps []
def rpTo : Rp → Xf Da
  | .ok d => fun ρ => some (.ok d ρ)
  | .er k d => fun ρ => some (.er k d ρ)
/-- nothing raised -/
def noEr (o : List Da → Option Rp) (ds : List Da) : Option Da := match o ds with
  | some (.ok d) => some d
  | _ => none
def callX (n : Nat) (o : List Da → Option Rp) (ds : List Da) : Xf Da := fun ρ => if ds.length = n then (o ds).bind fun r => rpTo r ρ else none
def x_callX (n : Nat) (o : List Da → Option Rp) (l : Xf (List Da)) : Xf Da := bindX l (callX n o)
def callG (i n : Nat) (o : List Da → List Da → Option (Rp × List Da)) (ds : List Da) : Xf Da := fun ρ => match ρ[i]? with
  | some e => match lsOf e with
    | some gs => if ds.length = n then (o gs ds).bind fun r => rpTo r.1 (ρ.set i (lsTo e r.2)) else none
    | none => none
  | none => none
def x_callG (i n : Nat) (o : List Da → List Da → Option (Rp × List Da)) (l : Xf (List Da)) : Xf Da := ifOwn i (bindX l (callG i n o))
section
variable {X : Cx} {W : WX} {a b e : Expr} {es : List Expr} {f g : Xf Da} {fl : Xf (List Da)} {pos apos : Pos} {x : Str} {p : Pos} {k j n : Nat}
theorem callX_post {c : En} {o : List Da → Option Rp} {own : Nat → List Addr} {ρ : DEnv} {σ : St} {F H : Hp} {Q : VK} {ds : List Da} {vs : List V} {r : Ro Da} (E : EnvC c own ρ σ F H) (hv : DvAll c.K F vs ds) (h : callX n o ds ρ = some r) (q : roPost c own σ F H (qD c.K Q) r) : spX c.K c.mg n o vs H Q (fun cls d H => c.W cls d σ H) := by
  unfold callX at h
  split at h
  · rename_i hn
    obtain ⟨rp, h1, h2⟩ := Option.bind_eq_some_iff.mp h
    refine ⟨by rw [hv.len]; exact hn, F, ds, rp, E.sub, E.nt, hv, h1, fun F' H' x => ?_⟩
    cases rp with
    | ok d =>
      cases h2
      exact fun v hv => q F' H' (.of x) (E.ext x) v hv
    | er k d =>
      cases h2
      exact fun cls dx he => q cls dx F' H' (.of x) (E.ext x) he
  · cases h
/-- a def that may raise -/
theorem dx_calX {o : List Da → Option Rp} (C : CalX X.prog X.w X.K X.mg X.base k x n o) (tk : Takes X W) (hr : Room j X.A) (hkj : k ≤ j) (ha : DXA X W (e :: es) fl) (hg : Gl X x := by rfl) (hdb : (x == ("__debug__" : Str)) = false := by decide) (he : starEach (e :: es) X.env = (false, eval e X.env) :: starEach es X.env := by rfl) (hpl : (backTo pos (starEach es X.env)).any (·.1) = false := by rfl) :
    DX X W (.Call (.Name x p) (e :: es) [] pos) (x_callX n o fl) := fun G F0 H0 => by
  obtain ⟨f, fd, ps, F, m, kp, b⟩ := C.ex
  refine PE.imp (pe_callS (E := WE W) F (hr.mono hkj) hg m kp b (passAt tk) (ha G F0 H0) hdb he hpl) fun σ H Q ⟨own, ρ, F, r, E, hf, q⟩ => ?_
  obtain ⟨r1, h1, q1⟩ := ro_step hf q
  exact ⟨own, ρ, F, r1, E, h1, q1.mono fun ds F1 H1 ⟨x1, ρ1, r', E1, h2, q2⟩ vs hvs => callX_post (c := enOf X W G F0 H0) E1 hvs h2 q2⟩
/-- .. that doesn't raise here -/
theorem de_calX {o : List Da → Option Rp} {l : Lf} (C : CalX X.prog X.w X.K X.mg X.base k x n o) (hr : Room j X.A) (hkj : k ≤ j) (ha : DA X (e :: es) l) (hll : ∀ ρ ds, l ρ = some ds → ds.length = n) (hg : Gl X x := by rfl) (hdb : (x == ("__debug__" : Str)) = false := by decide) (he : starEach (e :: es) X.env = (false, eval e X.env) :: starEach es X.env := by rfl) (hpl : (backTo pos (starEach es X.env)).any (·.1) = false := by rfl) :
    DE X (.Call (.Name x p) (e :: es) [] pos) (e_call (noEr o) l) := by
  obtain ⟨f, fd, ps, F, m, kp, b⟩ := C.ex
  refine PE.imp (pe_call (E := fun _ _ _ => False) F (hr.mono hkj) hg m kp b .nil (fun _ _ _ _ _ _ _ c => by
    obtain ⟨_, _, _, _, _, _, _, _, _, _, _, _, z⟩ := c
    exact z.elim) ha hdb he hpl) fun σ H Q ⟨ρ, F, d, E, hf, q⟩ => ?_
  obtain ⟨ds, h1, hf⟩ := Option.bind_eq_some_iff.mp hf
  unfold noEr at hf
  split at hf
  · rename_i d' hd
    cases hf
    exact ⟨ρ, F, ds, E, h1, fun vs F1 H1 x1 hv => ⟨by rw [List.append_nil, hv.len]; exact hll ρ ds h1, F1, ds, _, x1.fh, (E.ext x1).nt, by rw [List.append_nil]; exact hv, hd, fun F2 H2 x2 v hw => q v F2 H2 (x1.trans x2) hw⟩⟩
  · cases hf
theorem callG_post {c : En} {o : List Da → List Da → Option (Rp × List Da)} {own : Nat → List Addr} {ρ : DEnv} {σ : St} {F H : Hp} {Q : VK} {i : Nat} {ds : List Da} {a : Addr} {vs : List V} {r : Ro Da} (E : EnvC c own ρ σ F H) (ha : σ[i]? = some (some (.ref a))) (hv : DvAll c.K F vs ds) (h : callG i n o ds ρ = some r) (q : roPost c own σ F H (qD c.K Q) r) : spG c.K c.mg n o (.ref a :: vs) H Q (fun cls d H => c.W cls d σ H) := by
  unfold callG at h
  split at h
  · rename_i en hen
    split at h
    · rename_i gs hgs
      split at h
      · rename_i hn
        obtain ⟨rp, h1, h2⟩ := Option.bind_eq_some_iff.mp h
        obtain ⟨a1, xs, hs1, ho1, k1, kz, k2, kF⟩ := E.lsAt hen hgs
        rw [ha] at hs1; cases hs1
        have hp : Own own a := ⟨i, by rw [ho1]; exact List.mem_singleton.mpr rfl⟩
        refine ⟨by rw [List.length_cons, hv.len, hn], a, vs, xs, F, gs, ds, rp, rfl, E.sub, E.nt, kF, k1, kz, k2, hv, h1, fun xs' F' H' x e1 e2 e3 => ?_⟩
        have y : ExtP (Own own) F H F' H' := x.toP e1 hp
        have E2 : EnvC c own (ρ.set i (lsTo en rp.2)) σ F' H' := E.lsNew hen hgs ha y (fun b o hb n e => x.hh b o (by simpa using hb) n e) e1 e2 e3
        obtain ⟨r0, gs'⟩ := rp
        cases r0 with
        | ok d =>
          cases h2
          exact fun v hv => q F' H' y E2 v hv
        | er k d =>
          cases h2
          exact fun cls dx he => q cls dx F' H' y E2 he
      · cases h
    · cases h
  · cases h
/-- a def that changes the list of a name, and may raise -/
theorem dx_calG {o : List Da → List Da → Option (Rp × List Da)} {y : Str} {p2 : Pos} (C : CalG X.prog X.w X.K X.mg X.base k x n o) (i : Nat) (tk : Takes X W) (hr : Room j X.A) (hkj : k ≤ j) (ha : DXA X W es fl) (hi : X.N[i]? = some y := by rfl) (hv : Vis X.env.scope y := by first | exact Or.inl rfl | exact Or.inr (Or.inl rfl) | exact Or.inr (Or.inr rfl)) (hd : (y == ("__debug__" : Str)) = false := by decide) (hcd : (y == ("__classdict__" : Str)) = false := by decide) (hg : Gl X x := by rfl) (hdb : (x == ("__debug__" : Str)) = false := by decide)
    (he : starEach (.Name y p2 :: es) X.env = (false, eval (.Name y p2) X.env) :: starEach es X.env := by rfl) (hpl : (backTo pos (starEach es X.env)).any (·.1) = false := by rfl) :
    DX X W (.Call (.Name x p) (.Name y p2 :: es) [] pos) (x_callG i n o fl) := fun G F0 H0 => by
  obtain ⟨f, fd, ps, F, m, kp, b⟩ := C.ex
  refine PE.imp (pe_callS (E := WE W) F (hr.mono hkj) hg m kp b (passAt tk) (pa_cons (pv i hi hv hd hcd) (ha G F0 H0) he) hdb he hpl) fun σ H Q ⟨own, ρ, F, r, E, hf, q⟩ => ?_
  unfold x_callG ifOwn at hf
  split at hf
  · rename_i en hen
    split at hf
    · rename_i gs hgs
      obtain ⟨a1, xs, hs1, ho1, k1, kz, k2, kF⟩ := E.lsAt hen hgs
      obtain ⟨r1, h1, q1⟩ := ro_step hf q
      exact ⟨_, hs1, own, ρ, F, r1, E, h1, q1.mono fun ds F1 H1 ⟨x1, ρ1, r', E1, h2, q2⟩ vs hvs => callG_post (c := enOf X W G F0 H0) E1 hs1 hvs h2 q2⟩
    · cases hf
  · cases hf
end
end DD
end

section
set_option Elab.async false
set_option linter.all false
set_option maxRecDepth 100000
set_option maxHeartbeats 2000000
/-! The data layer: comprehensions that draw. -/
namespace DD
open PySem PySem.Spec PyProof.Rows L2

/-! ### slots dropped -/
def dropO (own : Nat → List Addr) (i : Nat) : Nat → List Addr := fun j => if j = i then [] else own j
def dropL (own : Nat → List Addr) : List Nat → (Nat → List Addr)
  | [] => own
  | v :: vs => dropO (dropL own vs) v
theorem dropO_no {own : Nat → List Addr} {i : Nat} (h : own i = []) : dropO own i = own := by
  funext j
  unfold dropO
  by_cases hj : j = i
  · rw [if_pos hj, hj, h]
  · rw [if_neg hj]
theorem dropL_in {own : Nat → List Addr} {j : Nat} : ∀ {vs : List Nat}, j ∈ vs → dropL own vs j = []
  | v :: vs, h => by
    unfold dropL dropO
    by_cases hj : j = v
    · rw [if_pos hj]
    · rw [if_neg hj]
      rcases List.mem_cons.mp h with z | z
      · exact absurd z hj
      · exact dropL_in z
theorem dropL_not {own : Nat → List Addr} {j : Nat} : ∀ {vs : List Nat}, j ∉ vs → dropL own vs j = own j
  | [], _ => rfl
  | v :: vs, h => by
    unfold dropL dropO
    rw [if_neg (fun z => h (by rw [z]; exact List.mem_cons_self))]
    exact dropL_not fun z => h (List.mem_cons_of_mem _ z)
theorem dropL_sub {own : Nat → List Addr} {j : Nat} {a : Addr} {vs : List Nat} (h : a ∈ dropL own vs j) : a ∈ own j := by
  by_cases hj : j ∈ vs
  · rw [dropL_in hj] at h; cases h
  · rw [dropL_not hj] at h; exact h
theorem wipe_at {σ : St} {j : Nat} : ∀ {vs : List Nat}, j ∉ vs → (wipe σ vs)[j]? = σ[j]?
  | [], _ => rfl
  | v :: vs, h => by
    show ((wipe σ vs).set v none)[j]? = σ[j]?
    rw [List.getElem?_set_ne (fun z => h (by rw [← z]; exact List.mem_cons_self))]
    exact wipe_at fun z => h (List.mem_cons_of_mem _ z)
section
variable {K : PySem.W.Frag} {G : List Addr} {F0 H0 : Hp} {ρ ρ' : DEnv} {σ σ' : St} {F H F' H' : Hp} {own : Nat → List Addr} {i : Nat}
theorem EnvA.setAny (h : EnvA K G F0 H0 own ρ σ F H) (i : Nat) {e : Ent} {s : Option V} (o : EnvO K (dropO own i) (ρ.set i e) (σ.set i s) F H) (he : ∀ m, e ≠ .gn m) : EnvA K G F0 H0 (dropO own i) (ρ.set i e) (σ.set i s) F H := by
  refine ⟨o, h.x, h.g, fun j a ha => ?_, fun j m a q ha => ?_⟩
  · unfold dropO at ha
    by_cases hj : j = i
    · rw [if_pos hj] at ha; cases ha
    · rw [if_neg hj] at ha
      rcases h.fr j a ha with q | ⟨q, m, z⟩
      · exact .inl q
      · exact .inr ⟨q, m, set_keep hj z⟩
  · obtain ⟨h1, h2⟩ := set_gn he q
    unfold dropO at ha
    rw [if_neg h1] at ha
    exact h.gn j m a h2 ha
theorem EnvA.setImA (h : EnvA K G F0 H0 own ρ σ F H) (i : Nat) {v : V} {d : Da} (hv : Dv K F v d) : EnvA K G F0 H0 (dropO own i) (ρ.set i (.im d)) (σ.set i (some v)) F H := h.setAny i (h.o.setIm i hv) (by intro _ z; cases z)
theorem EnvA.setNoA (h : EnvA K G F0 H0 own ρ σ F H) (i : Nat) (s : Option V) : EnvA K G F0 H0 (dropO own i) (ρ.set i .no) (σ.set i s) F H := h.setAny i (h.o.setNo i s) (by intro _ z; cases z)
theorem EnvA.wipeA (h : EnvA K G F0 H0 own ρ σ F H) : ∀ vs : List Nat, EnvA K G F0 H0 (dropL own vs) (wipeE ρ vs) (wipe σ vs) F H
  | [] => h
  | v :: vs => (EnvA.wipeA h vs).setNoA v none
theorem EnvA.bindA (is : List Nat) : ∀ (vs : List V) (ds : List Da) (ρ : DEnv) (σ : St), DvAll K F vs ds → (∀ i ∈ is, own i = []) → EnvA K G F0 H0 own ρ σ F H → EnvA K G F0 H0 own (bindL' is ds ρ) (setAll is vs σ) F H := by
  induction is with
  | nil => intro _ _ _ _ _ _ h; unfold bindL' setAll; exact h
  | cons i r ih =>
    intro vs ds ρ σ h1 hn h
    cases h1 with
    | nil => unfold bindL' setAll; exact h
    | cons h1 h2 =>
      have q := h.setImA i h1
      rw [dropO_no (hn i List.mem_cons_self)] at q
      exact ih _ _ _ _ h2 (fun j hj => hn j (List.mem_cons_of_mem _ hj)) q
/-- a target of slots that hold nothing of their own -/
theorem gA_read {t : Tg} {v : V} {d : Da} {vs : List Nat} {Q : St → Hp → Prop} (E : EnvA K G F0 H0 own ρ σ F H) (hn : ∀ i ∈ t.slots, own i = []) (hv : Dv K F v d) (hb : bindT t d ρ = some ρ') (hs : ∀ i ∈ t.slots, i ∈ vs) (k : ∀ σ', EnvA K G F0 H0 own ρ' σ' F H → wipe σ' vs = wipe σ vs → Q σ' H) : gOf K t v σ H Q := by
  cases t with
  | one i =>
    cases hb
    have q := E.setImA i hv
    rw [dropO_no (hn i List.mem_cons_self)] at q
    exact k _ q (wipe_comm (hs i List.mem_cons_self))
  | tup is =>
    cases d with
    | tuple ds =>
      have hb : (if ds.length = is.length then some (bindL' is ds ρ) else none) = some ρ' := hb
      split at hb
      · rename_i hl
        cases hb
        cases hv with
        | tup h1 hz h2 =>
          exact ⟨_, _, rfl, SqT.of (E.sub _ _ h1), by rw [h2.len]; exact hl, gs_read is _ _ _ _ (by rw [h2.len]; exact hl) (k _ (EnvA.bindA is _ _ _ _ h2 hn E) (wipe_setAll is _ _ hs))⟩
      · cases hb
    | _ => cases hb
end

/-! ### back from a comprehension's turn -/
def mergeE (ρ ρ2 : DEnv) : DEnv := ρ.mapIdx fun i e => match lsOf e, ρ2[i]?.bind lsOf with
  | some _, some ds => lsTo e ds
  | _, _ => e
theorem merge_at {ρ ρ2 : DEnv} {i : Nat} {e : Ent} (h : ρ[i]? = some e) : (mergeE ρ ρ2)[i]? = some (match lsOf e, ρ2[i]?.bind lsOf with
  | some _, some ds => lsTo e ds
  | _, _ => e) := by
  unfold mergeE
  rw [List.getElem?_mapIdx, h]
  rfl
section
variable {K : PySem.W.Frag} {G : List Addr} {F0 H0 : Hp} {ρ ρ2 : DEnv} {σ σ2 : St} {F H F' H' : Hp} {own : Nat → List Addr} {vs : List Nat}
theorem EnvA.merge (h : EnvA K G F0 H0 own ρ σ F H) (x : ExtP (Own (dropL own vs)) F H F' H') (E2 : EnvA K G F0 H0 (dropL own vs) ρ2 σ2 F' H') (hw : wipe σ2 vs = wipe σ vs) : EnvA K G F0 H0 own (mergeE ρ ρ2) σ F' H' := by
  have xo : ExtP (Own own) F H F' H' := x.mono fun a ⟨i, hi⟩ => ⟨i, dropL_sub hi⟩
  have hσ : ∀ j, j ∉ vs → σ2[j]? = σ[j]? := fun j hj => by rw [← wipe_at (σ := σ2) hj, hw, wipe_at hj]
  refine h.move xo (by unfold mergeE; simp) (fun i e' s q1 q2 => ?_) (fun i a ha => ?_) fun i => ?_
  · have hl : i < ρ.length := by
      have := (List.getElem?_eq_some_iff.mp q1).1
      unfold mergeE at this
      simpa using this
    have hi : ρ[i]? = some ρ[i] := List.getElem?_eq_getElem hl
    generalize ρ[i] = e at hi
    rw [merge_at hi] at q1
    have q := h.o.ent i e s hi q2
    cases hle : lsOf e with
    | none =>
      rw [hle] at q1
      cases q1
      generalize own i = as at q
      cases q with
      | no => exact .no
      | im q => exact .im (q.up xo.ff)
      | ow _ _ _ => cases hle
      | gn _ _ _ => cases hle
    | some ds =>
      rw [hle] at q1
      obtain ⟨a, xs, hs, ho, g1, gz, g2, gF⟩ := h.lsAt hi hle
      rw [q2] at hs; cases hs
      rw [ho]
      by_cases hv : i ∈ vs
      · have e2 : ρ2[i]?.bind lsOf = none := by
          cases hr : ρ2[i]? with
          | none => rfl
          | some er =>
            show lsOf er = none
            cases hle2 : lsOf er with
            | none => rfl
            | some d2 =>
              obtain ⟨_, _, _, z, _⟩ := E2.lsAt hr hle2
              rw [dropL_in hv] at z; cases z
        rw [e2] at q1
        cases q1
        have np : ¬ Own (dropL own vs) a := fun ⟨j, hj⟩ => by
          have e1 := h.o.sep j i a (dropL_sub hj) (by rw [ho]; exact List.mem_singleton.mpr rfl)
          rw [e1, dropL_in hv] at hj; cases hj
        have k1 := x.hh a _ np noTbl_lst g1
        have : lsTo e ds = e := by cases e <;> cases hle <;> rfl
        rw [← this]
        exact lsTo_ok hle k1 gz (g2.up xo.ff)
      · have o2 : dropL own vs i = [a] := by rw [dropL_not hv, ho]
        have hs2 : σ2[i]? = some (some (.ref a)) := by rw [hσ i hv]; exact q2
        have hl2 : i < ρ2.length := by rw [E2.o.len]; exact (List.getElem?_eq_some_iff.mp hs2).1
        have hr : ρ2[i]? = some ρ2[i] := List.getElem?_eq_getElem hl2
        generalize ρ2[i] = er at hr
        have qq := E2.o.ent i er _ hr hs2
        rw [o2] at qq
        cases hle2 : lsOf er with
        | none =>
          cases qq <;> cases hle2
        | some d2 =>
          obtain ⟨b, ys, hs3, _, k1, kz, k2, _⟩ := E2.lsAt hr hle2
          rw [hs2] at hs3; cases hs3
          rw [hr] at q1
          simp only [Option.bind_some, hle2] at q1
          cases q1
          exact lsTo_ok hle k1 kz k2
  · by_cases hv : i ∈ vs
    · obtain ⟨_, o, k⟩ := h.o.out i a ha
      refine ⟨o, x.hh a _ (fun ⟨j, hj⟩ => ?_) noTbl_lst k⟩
      have e1 := h.o.sep j i a (dropL_sub hj) ha
      rw [e1, dropL_in hv] at hj; cases hj
    · obtain ⟨_, o, k⟩ := E2.o.out i a (by rw [dropL_not hv]; exact ha)
      exact ⟨o, k⟩
  · by_cases hl : i < ρ.length
    · have hi : ρ[i]? = some ρ[i] := List.getElem?_eq_getElem hl
      generalize ρ[i] = e at hi
      rw [merge_at hi, hi]
      cases hle : lsOf e with
      | none => simp
      | some ds =>
        cases hr : ρ2[i]?.bind lsOf with
        | none => simp
        | some d2 =>
          simp only
          constructor
          · rintro ⟨m, z⟩
            obtain ⟨m', z'⟩ := (lsTo_gn hle).mp ⟨m, Option.some.inj z⟩
            exact ⟨m', by rw [z']⟩
          · rintro ⟨m, z⟩
            obtain ⟨m', z'⟩ := (lsTo_gn (ds' := d2) hle).mpr ⟨m, Option.some.inj z⟩
            exact ⟨m', by rw [z']⟩
    · rw [List.getElem?_eq_none (by unfold mergeE; simpa using hl), List.getElem?_eq_none (by simpa using hl)]
/-- an object that nobody's is -/
theorem EnvA.putN (h : EnvA K G F0 H0 own ρ σ F H) {p : Addr} {o : HO} (hF : F p = none) (h0 : H0 p = none) (hG : p ∉ G) (hn : ∀ j, p ∉ own j) : EnvA K G F0 H0 own ρ σ F (upd H p o) := by
  refine ⟨⟨fun c u e => ?_, h.o.len, fun j e s q1 q2 => (h.o.ent j e s q1 q2).put (hn j), fun j c hc => ?_, h.o.nt, h.o.sep⟩, ⟨fun c u n t e => ?_, fun c ps e => ?_, h.x.ff, fun c u e => ?_, h.x.nw, h.x.tf⟩, fun c hc => ?_, h.fr, h.gn⟩
  · rw [upd_ne (ne_of_none e hF)]; exact h.o.sub _ _ e
  · obtain ⟨q1, u, q2⟩ := h.o.out j c hc
    exact ⟨q1, u, by rw [upd_ne (fun z => hn j (by rw [← z]; exact hc))]; exact q2⟩
  · rw [upd_ne (ne_of_none e h0)]; exact h.x.hh c u n t e
  · rw [upd_ne (ne_of_none e h0)]; exact h.x.ht c ps e
  · rw [upd_ne (ne_of_none e hF)]; exact h.x.fh _ _ e
  · obtain ⟨u, q1, u', q2⟩ := h.g c hc
    exact ⟨u, q1, u', by rw [upd_ne (ne_of_none q1 h0)]; exact q2⟩
/-- .. that stays from now on -/
theorem EnvA.frzN (h : EnvA K G F0 H0 own ρ σ F H) {p : Addr} {xs : List V} (hF : F p = none) (hp : H p = some (.lst xs)) (h0 : H0 p = none) (hn : ∀ j, p ∉ own j) : EnvA K G F0 H0 own ρ σ (upd F p (.lst xs)) H := by
  have sm : Same F (upd F p (.lst xs)) := same_put hF
  refine ⟨⟨fun c u e => ?_, h.o.len, fun j e s q1 q2 => (h.o.ent j e s q1 q2).up sm, fun j c hc => ?_, fun c ps e => ?_, h.o.sep⟩, ⟨h.x.hh, h.x.ht, h.x.ff.trans sm, fun c u e => ?_, fun c u e n => ?_, fun c ps e => ?_⟩, h.g, h.fr, h.gn⟩
  · by_cases q : c = p
    · subst q; rw [upd_same] at e; cases e; exact hp
    · rw [upd_ne q] at e; exact h.o.sub _ _ e
  · obtain ⟨q1, q2⟩ := h.o.out j c hc
    exact ⟨by rw [upd_ne (fun z => hn j (by rw [← z]; exact hc))]; exact q1, q2⟩
  · by_cases q : c = p
    · subst q; rw [upd_same] at e; cases e
    · rw [upd_ne q] at e; exact h.o.nt c ps e
  · by_cases q : c = p
    · subst q; rw [upd_same] at e; cases e; exact hp
    · rw [upd_ne q] at e; exact h.x.fh _ _ e
  · rw [upd_ne (ne_of_none e h0)]; exact h.x.nw c u e n
  · by_cases q : c = p
    · subst q; rw [upd_same] at e; cases e
    · rw [upd_ne q] at e; exact h.x.tf c ps e
theorem ExtP.putN {P : Addr → Prop} (x : ExtP P F H F' H') {p : Addr} {o : HO} (h0 : H p = none) (hF : F' p = none) : ExtP P F H F' (upd H' p o) where
  hh := fun a u n t e => by rw [upd_ne (ne_of_none e h0)]; exact x.hh a u n t e
  ht := fun a ps e => by rw [upd_ne (ne_of_none e h0)]; exact x.ht a ps e
  ff := x.ff
  fh := fun a u e => by rw [upd_ne (ne_of_none e hF)]; exact x.fh _ _ e
  nw := x.nw
  tf := x.tf
  ex := fun a u e => by rw [upd_ne (ne_of_none e h0)]; exact x.ex a u e
theorem ExtP.frzN {P : Addr → Prop} (x : ExtP P F H F' H') {p : Addr} {xs : List V} (h0 : H p = none) (hF : F' p = none) (hp : H' p = some (.lst xs)) : ExtP P F H (upd F' p (.lst xs)) H' where
  hh := x.hh
  ht := x.ht
  ff := x.ff.trans (same_put hF)
  fh := fun c u e => by
    by_cases q : c = p
    · subst q; rw [upd_same] at e; cases e; exact hp
    · rw [upd_ne q] at e; exact x.fh _ _ e
  nw := fun a u e n => by rw [upd_ne (ne_of_none e h0)]; exact x.nw a u e n
  tf := fun c ps e => by
    by_cases q : c = p
    · subst q; rw [upd_same] at e; cases e
    · rw [upd_ne q] at e; exact x.tf c ps e
  ex := x.ex
end

/-! ### the comprehension -/
def xlcGo (t : Tg) (c : Tf) (e : Xf Da) (vs : List Nat) : List Da → Xf (List Da)
  | [], ρ => some (.ok [] ρ)
  | d :: ds, ρ => match bindT t d (wipeE ρ vs) with
    | none => none
    | some ρ1 => match c ρ1 with
      | none => none
      | some false => xlcGo t c e vs ds ρ
      | some true => match e ρ1 with
        | some (.ok y ρ2) => match xlcGo t c e vs ds (mergeE ρ ρ2) with
          | some (.ok r ρ3) => some (.ok (y :: r) ρ3)
          | _ => none
        | _ => none
def x_lc (it : Xf (List Da)) (t : Tg) (c : Tf) (e : Xf Da) (vs : List Nat) : Xf (List Da) := bindX it fun ds => xlcGo t c e vs ds
theorem xlc_ok {t : Tg} {c : Tf} {e : Xf Da} {vs : List Nat} : ∀ {ds : List Da} {ρ : DEnv} {r : Ro (List Da)}, xlcGo t c e vs ds ρ = some r → ∃ l ρ', r = .ok l ρ'
  | [], _, _, h => by cases h; exact ⟨_, _, rfl⟩
  | d :: ds, ρ, r, h => by
    unfold xlcGo at h
    split at h
    · cases h
    · split at h
      · cases h
      · exact xlc_ok h
      · split at h
        · split at h
          · cases h; exact ⟨_, _, rfl⟩
          · cases h
        · cases h
/-- nothing that is taken -/
def WN : WX := fun _ _ _ _ => False
theorem takesN {X : Cx} : Takes X WN := fun u s' ⟨_, _, _, _, _, _, _, _, _, _, _, _, _, _, _, _, w⟩ => w.elim
/-- a new list -/
def qN (K : PySem.W.Frag) (own : Nat → List Addr) (H : Hp) (Q : VK) : List Da → Hp → Hp → Prop := fun ds F' H' => ∀ p xs, F' p = none → H p = none → H' p = some (.lst xs) → xs.length ≤ sizeLine → DvAll K F' xs ds → Q (.ref p) H'
def tXN (c : En) (f : Xf (List Da)) : TE := fun σ H Q => ∃ own ρ F r, EnvC c own ρ σ F H ∧ f ρ = some r ∧ roPost c own σ F H (qN c.K own H Q) r
abbrev DXN (X : Cx) (W : WX) (e : Expr) (f : Xf (List Da)) : Prop := ∀ G F0 H0, PE X e (tXN (enOf X W G F0 H0) f)
theorem dxn_of {X : Cx} {W : WX} {e : Expr} {l : Lf} (h : DN X e l) : DXN X W e (x_of l) := fun G F0 H0 => PE.imp h fun σ H Q ⟨own, ρ, F, r, E, hf, q⟩ => by
  obtain ⟨d, h1, q⟩ := ro_of hf q
  exact ⟨ρ, F, d, ⟨own, E.o⟩, h1, fun p xs F' H' x hF hH hp hz hv => q F' H' (.of x) (E.ext x) p xs hF hH hp hz hv⟩
def x_new (f : Xf (List Da)) : Xf Da := bindX f fun ds => retX (some (.list ds))
theorem dx_new {X : Cx} {W : WX} {e : Expr} {f : Xf (List Da)} (h : DXN X W e f) : DX X W e (x_new f) := fun G F0 H0 => PE.imp (h G F0 H0) fun σ H Q ⟨own, ρ, F, r, E, hf, q⟩ => by
  unfold x_new bindX at hf
  split at hf
  · rename_i ds ρ' e
    cases hf
    refine ⟨own, ρ, F, _, E, e, fun F1 H1 x1 E1 p xs hF hH hp hz hv => ?_⟩
    obtain ⟨g1, g2, g3⟩ := E.fresh hH
    exact q (upd F1 p (.lst xs)) H1 (x1.frzN hH hF hp) (E1.frzN hF hp g2 g3) _ (.lst upd_same hz (hv.up (same_put hF)))
  · rename_i k d ρ' e
    cases hf
    exact ⟨own, ρ, F, _, E, e, q⟩
  · cases hf
section
variable {X : Cx} {W : WX} {elt tg iter : Expr} {ifs : List Expr} {scope : Scope} {ownN : List (Str × Nat)} {pos : Pos} {it : Xf (List Da)} {t : Tg} {c : Tf} {e : Xf Da}
theorem xlc_read {G : List Addr} {F0 H0 : Hp} {vs : List Nat} {σ : St} {H : Hp} {Q : VK} (hvs : ∀ i ∈ t.slots, i ∈ vs) (h : tXN (enOf X W G F0 H0) (x_lc it t c e vs) σ H Q) : tLc (tXI (enOf X W G F0 H0) it) (gOf X.K t) (tT X.K c) (tX (enOf X WN G F0 H0) e) vs σ H Q := by
  obtain ⟨own, ρ, F, r, E, hf, q⟩ := h
  unfold x_lc bindX at hf
  split at hf
  case h_3 => cases hf
  case h_2 =>
    rename_i k d ρ' e
    cases hf
    exact ⟨own, ρ, F, _, E, e, q⟩
  rename_i items ρ0 hit
  obtain ⟨all, ρn, rfl⟩ := xlc_ok hf
  refine ⟨own, ρ, F, _, E, hit, fun F1 H1 x1 E1 J dl D nD => ?_⟩
  obtain ⟨g1, g2, g3⟩ := E1.fresh nD
  have nH : H D = none := x1.non nD
  refine ⟨fun i m H' => m = items.length - i ∧ i ≤ items.length ∧ ∃ F' ρi acc done rest, ExtP (Own own) F1 H1 F' H' ∧ EnvA X.K G F0 H0 own ρi σ F' H' ∧ F' D = none ∧ H' D = some (.lst acc) ∧ acc.length ≤ i ∧ DvAll X.K F' acc done ∧ xlcGo t c e vs (items.drop i) ρi = some (.ok rest ρn) ∧ all = done ++ rest, ⟨items.length, by simp, Nat.zero_le _, F1, ρ0, [], [], all, (ExtP.refl E1.sub).putN nD (E1.sub.free nD), E1.putN (E1.sub.free nD) g2 g1 g3, E1.sub.free nD, upd_same, Nat.zero_le _, .nil, hf, rfl⟩, ?_⟩
  rintro i m H' ⟨rfl, hi, F', ρi, acc, done, rest, xe, Ei, hF, hD, hz, hacc, hrest, rfl⟩
  by_cases hlt : i < items.length
  · refine .inr ⟨dl.go i F' H' xe.ff xe.fh hlt, fun H'' => items.length - (i + 1) < items.length - i ∧ ∃ F' ρi acc done rest', ExtP (Own own) F1 H1 F' H'' ∧ EnvA X.K G F0 H0 own ρi σ F' H'' ∧ F' D = none ∧ H'' D = some (.lst acc) ∧ acc.length ≤ i + 1 ∧ DvAll X.K F' acc done ∧ xlcGo t c e vs (items.drop (i + 1)) ρi = some (.ok rest' ρn) ∧ _ = done ++ rest', fun H'' ⟨hm, r⟩ => ⟨_, hm, rfl, hlt, r⟩, fun x H'' hy => ?_⟩
    obtain ⟨F2, d, hd, x2, hx⟩ := dl.yld i F' H' x H'' xe.ff xe.fh hlt hy
    have hdrop : items.drop i = d :: items.drop (i + 1) := by
      obtain ⟨h1, h2⟩ := List.getElem?_eq_some_iff.mp hd
      rw [List.drop_eq_getElem_cons h1, h2]
    rw [hdrop] at hrest
    unfold xlcGo at hrest
    split at hrest
    · cases hrest
    rename_i ρ1 hb
    have Ei2 := Ei.ext x2
    have hD2 := x2.hh.lst hD
    have hF2 := x2.nw D _ hD hF
    refine gA_read (vs := vs) (Ei2.wipeA vs) (fun j hj => dropL_in (hvs j hj)) hx hb hvs fun σ2 E3 hw => ⟨hw.trans (wipe_wipe fun _ z => z), ?_⟩
    have hw2 : wipe σ2 vs = wipe σ vs := hw.trans (wipe_wipe fun _ z => z)
    split at hrest
    · cases hrest
    · rename_i hc
      refine ⟨ρ1, F2, false, ⟨_, E3.o⟩, hc, fun F3 H3 x3 => iteF ⟨by omega, F3, ρi, acc, done, rest, (xe.trans (.of x2)).trans (.of x3), Ei2.ext x3, ?_, ?_, by omega, (hacc.up x2.ff).up x3.ff, hrest, rfl⟩⟩
      · exact x3.nw D _ hD2 hF2
      · exact x3.hh.lst hD2
    · rename_i hc
      refine ⟨ρ1, F2, true, ⟨_, E3.o⟩, hc, fun F3 H3 x3 => iteT ?_⟩
      have hD3 := x3.hh.lst hD2
      have hF3 := x3.nw D _ hD2 hF2
      split at hrest
      · rename_i y ρ2 hy'
        split at hrest
        · rename_i r3 ρ3 hr
          cases hrest
          refine ⟨_, ρ1, F3, _, E3.ext x3, hy', fun F4 H4 x4 E4 v hv => ?_⟩
          have np : ¬ Own (dropL own vs) D := fun ⟨j, hj⟩ => g3 j (dropL_sub hj)
          have hD4 := x4.hh D _ np noTbl_lst hD3
          have hF4 := x4.nw D _ hD3 hF3
          have x4' : ExtP (Own own) F3 H3 F4 H4 := x4.mono fun a ⟨j, hj⟩ => ⟨j, dropL_sub hj⟩
          have Em := EnvA.merge (Ei2.ext x3) x4 E4 hw2
          refine ⟨acc, hD4, by have := dl.size; omega, by omega, F4, mergeE ρi ρ2, acc ++ [v], done ++ [y], r3, ?_, ?_, hF4, upd_same, ?_, ?_, hr, by simp⟩
          · exact (((xe.trans (.of x2)).trans (.of x3)).trans x4').putN nD hF4
          · exact Em.putN hF4 g2 g1 g3
          · rw [List.length_append]; simp; exact hz
          · exact (((hacc.up x2.ff).up x3.ff).up x4.ff).append (.one hv)
        · cases hrest
      · cases hrest
  · have e : i = items.length := by omega
    subst e
    rw [List.drop_length] at hrest
    cases hrest
    refine .inl ⟨dl.stop F' H' xe.ff xe.fh, ?_⟩
    exact q F' H' (x1.trans xe) Ei D acc hF nH hD (Nat.le_trans hz dl.size) (by simpa using hacc)
theorem dxn_lc (hi : DXI X W tg iter it) (hvs : ∀ i ∈ t.slots, i ∈ ownN.map (·.2)) (ok : BlkOk X.N X.env.scope scope ownN) (hN : X.N.Nodup) (hc : X.calm = true := by rfl)
    (hg : ∀ (s : Shared) (H : Hp) (C : Addr) (cl : List (Str × Addr)) (fp : List Addr), PG (X.blk s H scope (compEnvC scope cl C X.env) fp) tg (gOf X.K t)) (ht : ∀ (s : Shared) (H : Hp) (C : Addr) (cl : List (Str × Addr)) (fp : List Addr), PTs (X.blk s H scope (compEnvC scope cl C X.env) fp) ifs (tT X.K c))
    (he : ∀ (s : Shared) (H : Hp) (C : Addr) (cl : List (Str × Addr)) (fp : List Addr), DX (X.blk s H scope (compEnvC scope cl C X.env) fp) WN elt e) (hs : ∀ x, foldedSetIterable iter X.env x = pure x := by intro _; rfl) :
    DXN X W (.ListComp elt [⟨tg, iter, ifs, 0⟩] scope pos) (x_lc it t c e (ownN.map (·.2))) := fun G F0 H0 =>
  PE.imp (pe_lc hc hN (hi G F0 H0) ok hg ht (fun s H C cl fp => he s H C cl fp G F0 H0) hs) fun _ _ _ h => xlc_read hvs h
end

/-! ### what is walked, drawn -/
def xl_items (f : Xf Da) : Xf (List Da) := bindX f fun d => retX (match d with
  | .list xs => some xs
  | .tuple xs => some xs
  | _ => none)
def xl_range1 (l : Xf (List Da)) : Xf (List Da) := bindX l fun ds => retX (l_range1 (fun _ => some ds) [])
def xl_range2 (l : Xf (List Da)) : Xf (List Da) := bindX l fun ds => retX (l_range2 (fun _ => some ds) [])
end DD
end

section
set_option Elab.async false
set_option linter.all false
set_option maxRecDepth 100000
set_option maxHeartbeats 2000000
/-! The data layer: statements that draw and raise; defs. -/
namespace DD
open PySem PySem.Spec PyProof.Rows L2

section
variable {X : Cx} {W : WX} {tg e : Expr} {es : List Expr} {f : Xf Da} {l : Xf (List Da)} {p pos : Pos}
theorem dxi_items (h : DX X W e f) : DXI X W tg e (xl_items f) := fun G F0 H0 => by
  refine PI.imp (PI.or (pi_list (h G F0 H0)) (pi_tup (h G F0 H0))) fun σ H R ⟨own, ρ, F, r, E, hf, q⟩ => ?_
  unfold xl_items bindX at hf
  split at hf
  · rename_i d ρ' e
    obtain ⟨xs, ho, rfl⟩ := Option.map_eq_some_iff.mp hf
    split at ho
    · cases ho
      exact .inl ⟨own, ρ, F, _, E, e, fun F1 H1 x1 E1 v hv => by
        cases hv with
        | lst h1 hz h2 => exact ⟨_, rfl, ⟨_, SqL.of (E1.sub _ _ h1)⟩, q F1 H1 x1 E1 _ (dlv_list h1 hz h2)⟩⟩
    · cases ho
      exact .inr ⟨own, ρ, F, _, E, e, fun F1 H1 x1 E1 v hv => by
        cases hv with
        | tup h1 hz h2 => exact ⟨_, rfl, ⟨_, SqT.of (E1.sub _ _ h1)⟩, q F1 H1 x1 E1 _ (dlv_tup h1 hz h2)⟩⟩
    · cases ho
  · rename_i k d ρ' e
    cases hf
    exact .inl ⟨own, ρ, F, _, E, e, q⟩
  · cases hf
theorem dxi_range1 {a : Expr} (hm : X.mg "range" = none) (ha : DXA X W [a] l) (hg : Gl X "range" := by rfl) (hs : starEach [a] X.env = [(false, eval a X.env)] := by rfl) : DXI X W tg (.Call (.Name "range" p) [a] [] pos) (xl_range1 l) := fun G F0 H0 => by
  refine PI.imp (pi_range1 hg hm (ha G F0 H0) hs) fun σ H R ⟨own, ρ, F, r, E, hf, q⟩ => ?_
  obtain ⟨r1, h1, q1⟩ := ro_step hf q
  refine ⟨own, ρ, F, r1, E, h1, q1.mono fun ds F1 H1 ⟨x1, ρ1, r', E1, h2, q2⟩ vs hv => ?_⟩
  obtain ⟨z, ho, rfl, q5⟩ := ro_ret h2 q2
  unfold l_range1 at ho
  split at ho
  · rename_i n e
    cases e
    split at ho
    · rename_i hn
      cases ho
      have hsl := sizeLine_eq
      exact ⟨n, one_int hv, by omega, by omega, q5 F1 H1 (.refl E1.sub) E1 _ (dlv_range (by omega))⟩
    · cases ho
  · cases ho
theorem dxi_range2 {a b : Expr} (hm : X.mg "range" = none) (ha : DXA X W [a, b] l) (hg : Gl X "range" := by rfl) (hs : starEach [a, b] X.env = [(false, eval a X.env), (false, eval b X.env)] := by rfl) (hs2 : starEach [b] X.env = [(false, eval b X.env)] := by rfl) :
    DXI X W tg (.Call (.Name "range" p) [a, b] [] pos) (xl_range2 l) := fun G F0 H0 => by
  refine PI.imp (pi_range2 hg hm (ha G F0 H0) hs hs2) fun σ H R ⟨own, ρ, F, r, E, hf, q⟩ => ?_
  obtain ⟨r1, h1, q1⟩ := ro_step hf q
  refine ⟨own, ρ, F, r1, E, h1, q1.mono fun ds F1 H1 ⟨x1, ρ1, r', E1, h2, q2⟩ vs hv => ?_⟩
  obtain ⟨z, ho, rfl, q5⟩ := ro_ret h2 q2
  unfold l_range2 at ho
  split at ho
  · rename_i n m e
    cases e
    split at ho
    · rename_i hn
      cases ho
      have hsl := sizeLine_eq
      exact ⟨n, m, two_int hv, by omega, q5 F1 H1 (.refl E1.sub) E1 _ (dlv_range (by omega))⟩
    · cases ho
  · cases ho
/-! some operators -/
def p_fdiv (i j : Int) : Option Int := if 0 < j ∧ j < 1073741824 then some (i / j) else none
theorem do_fdiv : DOp X (binaryOp .FloorDiv) (o_int p_fdiv) := o_int_of op_fdiv fun i j r h => by
  unfold p_fdiv at h
  split at h
  · rename_i hc; cases h; exact ⟨hc, rfl⟩
  · cases h
def p_pow (i j : Int) : Option Int := if 0 ≤ j ∧ (Builtin.Int.intBits i : Int) * j ≤ 2 ^ 27 then some (i ^ j.toNat) else none
theorem op_powW : OpR X (binaryOp .Pow) (rI (fun i j => 0 ≤ j ∧ (Builtin.Int.intBits i : Int) * j ≤ 2 ^ 27) fun i j => .int (i ^ j.toNat)) := opI fun _ _ _ _ _ _ _ hc q => pow_int hc.1 hc.2 q
theorem do_pow : DOp X (binaryOp .Pow) (o_int p_pow) := o_int_of op_powW fun i j r h => by
  unfold p_pow at h
  split at h
  · rename_i hc; cases h; exact ⟨hc, rfl⟩
  · cases h
def o_bits : Da → Option Da
  | .int i => some (.int (Builtin.Int.intBits i : Nat))
  | _ => none
def e_bits (f : Ef) : Ef := fun ρ => (f ρ).bind o_bits
theorem de_bits {a : Expr} {fe : Ef} {apos : Pos} (ha : DE X a fe) (hbase : attributeBase a "bit_length" X.env (eval a X.env) = eval a X.env := by rfl) (hline : (apos.endLine == pos.line) = true := by rfl) : DE X (.Call (.Attribute a "bit_length" apos) [] [] pos) (e_bits fe) := by
  refine PE.imp (pe_bits ha hbase hline) fun σ H Q ⟨ρ, F, d, E, hf, q⟩ => ?_
  obtain ⟨x, h1, h2⟩ := Option.bind_eq_some_iff.mp hf
  unfold o_bits at h2
  split at h2
  · cases h2
    exact ⟨ρ, F, _, E, h1, fun v F1 H1 x1 hv => by cases hv; exact ⟨_, rfl, q _ F1 H1 x1 (.int _)⟩⟩
  · cases h2
end

/-! ### statements -/
inductive Fx where
  | fl (r : Fl)
  | er (k : Str) (d : Da) (ρ : DEnv)
abbrev Sx := DEnv → Option Fx
abbrev EnvT (c : En) (ρ : DEnv) (σ : St) (F H : Hp) : Prop := EnvAt c.K c.G c.F0 c.H0 ρ σ F H
def fxPost (c : En) (F : Hp) (D : Ends) : Fx → Prop
  | .fl r => flPost c.K c.G c.F0 c.H0 F D r
  | .er k d ρ => ∀ cls dx σ F' H', Same F F' → EnvT c ρ σ F' H' → ErIs c.K c.mg F' H' cls dx k d → c.W cls dx σ H'
def tSX (c : En) (f : Sx) : TS := fun D σ H => ∃ ρ F r, EnvT c ρ σ F H ∧ f ρ = some r ∧ fxPost c F D r
abbrev SX (X : Cx) (W : WX) (st : Stmt) (f : Sx) : Prop := ∀ G F0 H0, PS X st (tSX (enOf X W G F0 H0) f)
abbrev SXs (X : Cx) (W : WX) (st : List Stmt) (f : Sx) : Prop := ∀ G F0 H0, PSs X st (tSX (enOf X W G F0 H0) f)
theorem fxPost.up {c : En} {F F1 : Hp} {D : Ends} {r : Fx} (h : fxPost c F D r) (s : Same F F1) : fxPost c F1 D r := by
  cases r with
  | fl r => exact flPost.up h s
  | er k d ρ => exact fun cls dx σ F' H' s' E e => h cls dx σ F' H' (s.trans s') E e
def sx_of (f : Sf) : Sx := fun ρ => (f ρ).map .fl
/-- an expression, then what is done with its value -/
def sx_with {α : Type} (f : Xf α) (k : α → Sx) : Sx := fun ρ => match f ρ with
  | some (.ok a ρ') => k a ρ'
  | some (.er x d ρ') => some (.er x d ρ')
  | none => none
def sx_nil : Sx := fun ρ => some (.fl (.nx ρ))
def sx_seq (f g : Sx) : Sx := fun ρ => match f ρ with
  | some (.fl (.nx ρ')) => g ρ'
  | r => r
section
variable {X : Cx} {W : WX} {st : Stmt} {rest : List Stmt} {f g : Sx} {e : Expr} {fe : Xf Da} {pos : Pos}
theorem SE.x {sf : Sf} (h : SE X st sf) : SX X W st (sx_of sf) := fun G F0 H0 => PS.imp (h G F0 H0) fun D σ H ⟨ρ, F, r, E, hf, q⟩ => by
  obtain ⟨r', h1, rfl⟩ := Option.map_eq_some_iff.mp hf
  exact ⟨ρ, F, r', E, h1, q⟩
theorem SEs.x {sts : List Stmt} {sf : Sf} (h : SEs X sts sf) : SXs X W sts (sx_of sf) := fun G F0 H0 => PSs.imp (h G F0 H0) fun D σ H ⟨ρ, F, r, E, hf, q⟩ => by
  obtain ⟨r', h1, rfl⟩ := Option.map_eq_some_iff.mp hf
  exact ⟨ρ, F, r', E, h1, q⟩
theorem sxs_nil : SXs X W [] sx_nil := fun G F0 H0 => PSs.imp pss_nil fun D σ H ⟨ρ, F, r, E, hf, q⟩ => by
  cases hf
  exact q σ F H (Same.refl _) E
theorem sxs_cons (h1 : SX X W st f) (h2 : SXs X W rest g) : SXs X W (st :: rest) (sx_seq f g) := fun G F0 H0 => by
  refine PSs.imp (pss_cons (h1 G F0 H0) (h2 G F0 H0)) fun D σ H ⟨ρ, F, r, E, hf, q⟩ => ?_
  unfold sx_seq at hf
  split at hf
  · rename_i ρ' e
    exact ⟨ρ, F, _, E, e, fun σ' F' H' s E' => ⟨ρ', F', r, E', hf, q.up s⟩⟩
  · rename_i r' hn
    refine ⟨ρ, F, r, E, hf, ?_⟩
    cases r with
    | er k d ρ' => exact q
    | fl r =>
      cases r with
      | nx ρ' => exact absurd hf (by intro z; exact hn ρ' z)
      | rt d ρ' => exact q
      | bk ρ' => exact q
      | ct ρ' => exact q
theorem sxs_one (h1 : SX X W st f) : SXs X W [st] f := fun G F0 H0 => PSs.imp (pss_one (h1 G F0 H0)) fun _ _ _ h => h
/-- from a statement's wish to its expression's -/
theorem with_read {α : Type} {c : En} {fx : Xf α} {k : α → Sx} {D : Ends} {σ : St} {H : Hp} (h : tSX c (sx_with fx k) D σ H) :
    ∃ own ρ F r, EnvC c own ρ σ F H ∧ fx ρ = some r ∧ roPost c own σ F H (fun a F1 H1 => ExtP (Own own) F H F1 H1 ∧ ∃ ρ1 r', EnvC c own ρ1 σ F1 H1 ∧ k a ρ1 = some r' ∧ fxPost c F1 D r') r := by
  obtain ⟨ρ, F, r, ⟨own, E⟩, hf, q⟩ := h
  unfold sx_with at hf
  split at hf
  · rename_i a ρ' e
    exact ⟨own, ρ, F, _, E, e, fun F1 H1 x1 E1 => ⟨x1, ρ', r, E1, hf, q.up x1.ff⟩⟩
  · rename_i x d ρ' e
    cases hf
    exact ⟨own, ρ, F, _, E, e, fun cls dx F1 H1 x1 E1 he => q cls dx σ F1 H1 x1.ff ⟨own, E1⟩ he⟩
  · cases hf
def sx_asg (i : Nat) (fe : Xf Da) : Sx := sx_with fe fun d ρ => some (.fl (.nx (ρ.set i (.im d))))
theorem sx_asg_ok {i : Nat} {x : Str} {pos' : Pos} (hN : X.N.Nodup) (he : DX X W e fe) (hi : X.N[i]? = some x := by rfl) (hx : Loc X.env.scope x := by first | exact Or.inl rfl | exact Or.inr rfl)
    (hs : swapsWith e (some (.Name x pos')) pos.line X.env = pure false := by rfl) (hf : X.fn x = true ∨ X.env.scope.names.lookup x = some .local := by first | exact .inl rfl | exact .inr rfl) : SX X W (.Assign [.Name x pos'] e pos) (sx_asg i fe) := fun G F0 H0 => by
  refine PS.imp (ps_set hN hi hx (he G F0 H0) hs hf) fun D σ H h => ?_
  obtain ⟨own, ρ, F, r, E, h1, q⟩ := with_read h
  refine ⟨own, ρ, F, r, E, h1, q.mono fun d F1 H1 ⟨x1, ρ1, r', E1, h2, q2⟩ v hv => ?_⟩
  cases h2
  exact q2 _ F1 H1 (Same.refl _) (EnvAt.setIm ⟨own, E1⟩ i hv)
/-- a new list given to a name, as its own -/
def sx_own (i : Nat) (l : Xf (List Da)) : Sx := sx_with l fun ds ρ => some (.fl (.nx (ρ.set i (.ow ds))))
theorem sx_own_ok {i : Nat} {x : Str} {pos' : Pos} {l : Xf (List Da)} (hN : X.N.Nodup) (he : DXN X W e l) (hi : X.N[i]? = some x := by rfl) (hx : Loc X.env.scope x := by first | exact Or.inl rfl | exact Or.inr rfl)
    (hs : swapsWith e (some (.Name x pos')) pos.line X.env = pure false := by rfl) (hf : X.fn x = true ∨ X.env.scope.names.lookup x = some .local := by first | exact .inl rfl | exact .inr rfl) : SX X W (.Assign [.Name x pos'] e pos) (sx_own i l) := fun G F0 H0 => by
  refine PS.imp (ps_set hN hi hx (he G F0 H0) hs hf) fun D σ H h => ?_
  obtain ⟨own, ρ, F, r, E, h1, q⟩ := with_read h
  refine ⟨own, ρ, F, r, E, h1, q.mono fun d F1 H1 ⟨x1, ρ1, r', E1, h2, q2⟩ p xs hF hH hp hz hv => ?_⟩
  cases h2
  obtain ⟨g1, g2, g3⟩ := E.fresh hH
  exact q2 _ F1 H1 (Same.refl _) ⟨_, E1.setOw i hp hz hF g2 g1 g3 hv⟩
/-- a comprehension given to a local name on its line -/
theorem sx_asgLc_ok {i : Nat} {y : Str} {py : Pos} {elt tg iter : Expr} {ifs : List Expr} {scope : Scope} {ownN : List (Str × Nat)} {spos : Pos} {it : Xf (List Da)} {t : Tg} {c : Tf} {ee : Xf Da} (hN : X.N.Nodup) (hi : DXI X W tg iter it) (hvs : ∀ i ∈ t.slots, i ∈ ownN.map (·.2)) (ok : BlkOk X.N X.env.scope scope ownN)
    (hg : ∀ (s : Shared) (H : Hp) (C : Addr) (cl : List (Str × Addr)) (fp : List Addr), PG (X.blk s H scope (compEnvC scope cl C X.env) fp) tg (gOf X.K t)) (ht : ∀ (s : Shared) (H : Hp) (C : Addr) (cl : List (Str × Addr)) (fp : List Addr), PTs (X.blk s H scope (compEnvC scope cl C X.env) fp) ifs (tT X.K c))
    (he : ∀ (s : Shared) (H : Hp) (C : Addr) (cl : List (Str × Addr)) (fp : List Addr), DX (X.blk s H scope (compEnvC scope cl C X.env) fp) WN elt ee)
    (hsw : swapsWith (.ListComp elt [⟨tg, iter, ifs, 0⟩] scope pos) (some (.Name y py)) spos.line X.env = pure true)
    (hy : X.N[i]? = some y := by rfl) (hyl : X.env.scope.names.lookup y = some .local := by rfl) (hc : X.calm = true := by rfl) (hs : ∀ x, foldedSetIterable iter X.env x = pure x := by intro _; rfl) :
    SX X W (.Assign [.Name y py] (.ListComp elt [⟨tg, iter, ifs, 0⟩] scope pos) spos) (sx_asg i (x_new (x_lc it t c ee (ownN.map (·.2))))) := fun G F0 H0 => by
  refine PS.imp (ps_setLc (te := tX (enOf X WN G F0 H0) ee) hc hN hy hyl hsw (hi G F0 H0) ok hg ht (fun s H C cl fp => he s H C cl fp G F0 H0) hs) fun D σ H h => ?_
  obtain ⟨own, ρ, F, r, E, h1, q⟩ := with_read h
  refine xlc_read (W := W) hvs ?_
  unfold x_new bindX at h1
  split at h1
  · rename_i ds ρ' e
    cases h1
    refine ⟨own, ρ, F, _, E, e, fun F1 H1 x1 E1 p xs hF hH hp hz hv => ?_⟩
    obtain ⟨g1, g2, g3⟩ := E.fresh hH
    obtain ⟨_, ρ1, r', E2, h2, q2⟩ := q (upd F1 p (.lst xs)) H1 (x1.frzN hH hF hp) (E1.frzN hF hp g2 g3)
    cases h2
    exact q2 _ _ H1 (Same.refl _) (EnvAt.setIm ⟨own, E2⟩ i (.lst upd_same hz (hv.up (same_put hF))))
  · rename_i k d ρ' e
    cases h1
    exact ⟨own, ρ, F, _, E, e, q⟩
  · cases h1
def sx_ret (fe : Xf Da) : Sx := sx_with fe fun d ρ => some (.fl (.rt d ρ))
theorem sx_ret_ok (he : DX X W e fe) : SX X W (.Return (some e) pos) (sx_ret fe) := fun G F0 H0 => by
  refine PS.imp (ps_ret (he G F0 H0)) fun D σ H h => ?_
  obtain ⟨own, ρ, F, r, E, h1, q⟩ := with_read h
  refine ⟨own, ρ, F, r, E, h1, q.mono fun d F1 H1 ⟨x1, ρ1, r', E1, h2, q2⟩ v hv => ?_⟩
  cases h2
  exact q2 v σ F1 H1 (Same.refl _) ⟨own, E1⟩ hv
def sx_drop (fe : Xf Da) : Sx := sx_with fe fun d ρ => some (.fl (.nx ρ))
theorem sx_drop_ok (he : DX X W e fe) (hs : swapsWith e none pos.line X.env = pure false := by rfl) : SX X W (.Expr e pos) (sx_drop fe) := fun G F0 H0 => by
  refine PS.imp (ps_expr (he G F0 H0) hs) fun D σ H h => ?_
  obtain ⟨own, ρ, F, r, E, h1, q⟩ := with_read h
  refine ⟨own, ρ, F, r, E, h1, q.mono fun d F1 H1 ⟨x1, ρ1, r', E1, h2, q2⟩ v hv => ?_⟩
  cases h2
  exact q2 σ F1 H1 (Same.refl _) ⟨own, E1⟩
def sx_if (c : Xf Bool) (f g : Sx) : Sx := sx_with c fun b => if b = true then f else g
theorem sx_if_ok {c : Expr} {a b : List Stmt} {fc : Xf Bool} (hc : DXT X W c fc) (ha : SXs X W a f) (hb : SXs X W b g) : SX X W (.If c a b pos) (sx_if fc f g) := fun G F0 H0 => by
  refine PS.imp (ps_if (hc G F0 H0) (ha G F0 H0) (hb G F0 H0)) fun D σ H h => ?_
  obtain ⟨own, ρ, F, r, E, h1, q⟩ := with_read h
  refine ⟨own, ρ, F, r, E, h1, q.mono fun d F1 H1 ⟨x1, ρ1, r', E1, h2, q2⟩ => ?_⟩
  cases d with
  | true =>
    show if true = true then tSX (enOf X W G F0 H0) f D σ H1 else tSX (enOf X W G F0 H0) g D σ H1
    rw [if_pos rfl]
    exact ⟨ρ1, F1, r', ⟨own, E1⟩, h2, q2⟩
  | false =>
    show if false = true then tSX (enOf X W G F0 H0) f D σ H1 else tSX (enOf X W G F0 H0) g D σ H1
    rw [if_neg Bool.false_ne_true]
    exact ⟨ρ1, F1, r', ⟨own, E1⟩, h2, q2⟩
/-- x.append(e), x of its own -/
def appAt (i : Nat) (d : Da) (ρ : DEnv) : Option Fx := match ρ[i]? with
  | some e => match lsOf e with
    | some ds => if ds.length < sizeLine then some (.fl (.nx (ρ.set i (lsTo e (ds ++ [d]))))) else none
    | none => none
  | none => none
def sx_app (i : Nat) (fe : Xf Da) : Sx := sx_with (ifOwn i fe) (appAt i)
theorem ifOwn_some {α : Type} {i : Nat} {fx : Xf α} {ρ : DEnv} {r : Ro α} (h : ifOwn i fx ρ = some r) : ∃ e ds, ρ[i]? = some e ∧ lsOf e = some ds ∧ fx ρ = some r := by
  unfold ifOwn at h
  split at h
  · rename_i e he
    split at h
    · rename_i ds hds
      exact ⟨e, ds, he, hds, h⟩
    · cases h
  · cases h
theorem sx_app_ok {i : Nat} {ec : Expr} (hc : ∀ (t : TE), PE X e t → PE X ec (tBM X.K "list" rAppend (tVar i) (tCons t tNil))) (hf : DX X W e fe) (hs : swapsWith ec none pos.line X.env = pure false := by rfl) : SX X W (.Expr ec pos) (sx_app i fe) := fun G F0 H0 => by
  refine PS.imp (ps_expr (hc _ (hf G F0 H0)) hs) fun D σ H h => ?_
  obtain ⟨own, ρ, F, r, E, h1, q⟩ := with_read h
  obtain ⟨en, ds0, hen, hds0, h1⟩ := ifOwn_some h1
  obtain ⟨a, xs, hs, ho, k1, kz, k2, kF⟩ := E.lsAt hen hds0
  refine ⟨_, hs, .inl ⟨rfl, xs, SqL.of k1⟩, own, ρ, F, r, E, h1, q.mono fun d F1 H1 ⟨x1, ρ1, r', E1, h2, q2⟩ v hv => ?_⟩
  unfold appAt at h2
  split at h2
  · rename_i en1 hen1
    split at h2
    · rename_i ds hds
      split at h2
      · rename_i hlt
        cases h2
        obtain ⟨a1, xs1, hs1, ho1, g1, gz, g2, gF⟩ := E1.lsAt hen1 hds
        rw [hs] at hs1; cases hs1
        refine ⟨a, xs1, v, rfl, rfl, g1, by rw [g2.len]; exact hlt, ?_⟩
        obtain ⟨E2, x2⟩ := E1.lsPut hen1 hds hs (xs' := xs1 ++ [v]) (ds' := ds ++ [d]) (by rw [List.length_append, g2.len]; exact hlt) (g2.append (.one hv))
        exact q2 σ F1 _ (Same.refl _) ⟨own, E2⟩
      · cases h2
    · cases h2
  · cases h2
/-- x[c] = e, x of its own -/
def putAt (i : Nat) (k : Int) (d : Da) (ρ : DEnv) : Option Fx := match ρ[i]? with
  | some e => match lsOf e with
    | some ds => match ixN ds.length k with
      | some j => some (.fl (.nx (ρ.set i (lsTo e (ds.set j d)))))
      | none => none
    | none => none
  | none => none
def sx_put (i : Nat) (k : Int) (fe : Xf Da) : Sx := sx_with fe (putAt i k)
theorem sx_put_ok {i : Nat} {k : Int} {x : Str} {jj : Nat} {p1 p2 p3 : Pos} (he : DX X W e fe) (hi : X.N[i]? = some x := by rfl) (hv : Vis X.env.scope x := by first | exact Or.inl rfl | exact Or.inr (Or.inl rfl) | exact Or.inr (Or.inr rfl)) (hd : (x == ("__debug__" : Str)) = false := by decide) (hcd : (x == ("__classdict__" : Str)) = false := by decide)
    (ha : ∀ v, assign (.Subscript (.Name x p1) (.Constant (.int k) jj p2) p3) X.env v = (do
      let ov ← holding [v] (eval (.Name x p1) X.env)
      let iv ← holding [v, ov] (eval (.Constant (.int k) jj p2) X.env)
      standAt p3
      holding [v, ov, iv] (setItem ov iv v)
      release [v, ov, iv] []) := by intro _; rfl)
    (hs : swapsWithSole [.Subscript (.Name x p1) (.Constant (.int k) jj p2) p3] e pos.line X.env = pure false := by rfl) (hw : swappedStores [.Subscript (.Name x p1) (.Constant (.int k) jj p2) p3] e X.env = pure none := by rfl)
    (h1 : (assignEach [.Subscript (.Name x p1) (.Constant (.int k) jj p2) p3] X.env).map (·.2) = [assign (.Subscript (.Name x p1) (.Constant (.int k) jj p2) p3) X.env] := by rfl) : SX X W (.Assign [.Subscript (.Name x p1) (.Constant (.int k) jj p2) p3] e pos) (sx_put i k fe) := fun G F0 H0 => by
  refine PS.imp (ps_asg (he G F0 H0) (pg_sub (pv i hi hv hd hcd) pe_int set_list ha) hs hw h1) fun D σ H h => ?_
  obtain ⟨own, ρ, F, r, E, h1, q⟩ := with_read h
  refine ⟨own, ρ, F, r, E, h1, q.mono fun d F1 H1 ⟨x1, ρ1, r', E1, h2, q2⟩ v hv => ?_⟩
  unfold putAt at h2
  split at h2
  · rename_i en1 hen1
    split at h2
    · rename_i ds hds
      split at h2
      · rename_i j hj
        cases h2
        obtain ⟨a1, xs1, hs1, ho1, g1, gz, g2, gF⟩ := E1.lsAt hen1 hds
        refine ⟨_, hs1, a1, xs1, k, j, rfl, rfl, g1, by rw [g2.len]; exact hj, ?_⟩
        obtain ⟨E2, x2⟩ := E1.lsPut hen1 hds hs1 (xs' := xs1.set j v) (ds' := ds.set j d) (by rw [List.length_set]; exact gz) (g2.setD hv j)
        exact q2 σ F1 _ (Same.refl _) ⟨own, E2⟩
      · cases h2
    · cases h2
  · cases h2
end
end DD
end

section
set_option Elab.async false
set_option linter.all false
set_option maxRecDepth 100000
set_option maxHeartbeats 2000000
/-! The data layer: loops that draw and raise, several names at once, defs. -/
namespace DD
open PySem PySem.Spec PyProof.Rows L2

/-! ### loops -/
def forX (t : Tg) (b : Sx) : List Da → Sx
  | [], ρ => some (.fl (.nx ρ))
  | d :: ds, ρ => match bindT t d ρ with
    | none => none
    | some ρ1 => match b ρ1 with
      | some (.fl (.nx ρ2)) => forX t b ds ρ2
      | some (.fl (.ct ρ2)) => forX t b ds ρ2
      | some (.fl (.bk ρ2)) => some (.fl (.nx ρ2))
      | r => r
def sx_for (it : Xf (List Da)) (t : Tg) (b : Sx) : Sx := sx_with it fun ds => forX t b ds
section
variable {X : Cx} {W : WX} {f : Sx} {pos : Pos}
theorem forx_read {c : En} {it : Xf (List Da)} {t : Tg} {D : Ends} {σ : St} {H : Hp} (h : tSX c (sx_for it t f) D σ H) : tFor (tXI c it) (gOf c.K t) (tSX c f) D σ H := by
  obtain ⟨own0, ρ0, F0, r0, E0, h0, q0⟩ := with_read h
  refine ⟨own0, ρ0, F0, r0, E0, h0, q0.mono fun items F1 H1 ⟨x1, ρ, r, E, hf, q⟩ J dl => ?_⟩
  refine ⟨fun i m σ' H' => m = items.length - i ∧ i ≤ items.length ∧ ∃ ρ' F', EnvT c ρ' σ' F' H' ∧ Same F1 F' ∧ forX t f (items.drop i) ρ' = some r, ⟨_, rfl, Nat.zero_le _, ρ, F1, ⟨_, E⟩, Same.refl _, hf⟩, ?_⟩
  rintro i m σ' H' ⟨rfl, hi, ρ', F', E', sf, hr⟩
  by_cases hlt : i < items.length
  · refine .inr ⟨dl.go i F' H' sf E'.sub hlt, fun σ'' H'' => ∃ ρ' F', EnvT c ρ' σ'' F' H'' ∧ Same F1 F' ∧ forX t f (items.drop (i + 1)) ρ' = some r, fun σ'' H'' z => ⟨items.length - (i + 1), by omega, rfl, hlt, z⟩, fun x H'' hy => ?_⟩
    obtain ⟨F2, d, hd, x2, hx⟩ := dl.yld i F' H' x H'' sf E'.sub hlt hy
    have hdrop : items.drop i = d :: items.drop (i + 1) := by
      obtain ⟨h1, h2⟩ := List.getElem?_eq_some_iff.mp hd
      rw [List.drop_eq_getElem_cons h1, h2]
    rw [hdrop] at hr
    unfold forX at hr
    split at hr
    · cases hr
    rename_i ρ1 hb
    refine ga_read (E'.ext x2) hx hb fun σ2 E2 => ?_
    split at hr
    · rename_i ρ2 hb2
      exact ⟨ρ1, F2, _, E2, hb2, fun σ3 F3 H3 s3 E3 => ⟨ρ2, F3, E3, (sf.trans x2.ff).trans s3, hr⟩⟩
    · rename_i ρ2 hb2
      exact ⟨ρ1, F2, _, E2, hb2, fun σ3 F3 H3 s3 E3 => ⟨ρ2, F3, E3, (sf.trans x2.ff).trans s3, hr⟩⟩
    · rename_i ρ2 hb2
      cases hr
      exact ⟨ρ1, F2, _, E2, hb2, fun σ3 F3 H3 s3 E3 => q σ3 F3 H3 ((sf.trans x2.ff).trans s3) E3⟩
    · rename_i r' n1 n2 n3
      refine ⟨ρ1, F2, r, E2, hr, ?_⟩
      cases r with
      | er k d ρ2 => exact fun cls dx σ3 F3 H3 s3 E3 he => q cls dx σ3 F3 H3 ((sf.trans x2.ff).trans s3) E3 he
      | fl r =>
        cases r with
        | rt d ρ2 => exact fun v σ3 F3 H3 s3 E3 hv => q v σ3 F3 H3 ((sf.trans x2.ff).trans s3) E3 hv
        | nx ρ2 => exact absurd hr (by intro z; exact n1 ρ2 z)
        | ct ρ2 => exact absurd hr (by intro z; exact n2 ρ2 z)
        | bk ρ2 => exact absurd hr (by intro z; exact n3 ρ2 z)
  · have e : i = items.length := by omega
    subst e
    rw [List.drop_length] at hr
    cases hr
    exact .inl ⟨dl.stop F' H' sf E'.sub, q σ' F' H' sf E'⟩
theorem sx_for_ok {tg iter : Expr} {body : List Stmt} {it : Xf (List Da)} {t : Tg} (hp : PassesOwn (model X.prog X.w) X.A X.env X.xe) (hi : DXI X W tg iter it) (hg : PG X tg (gOf X.K t)) (hb : SXs X W body f) (hc : X.calm = true := by rfl) (hs : ∀ x, foldedSetIterable iter X.env x = pure x := by intro _; rfl) :
    SX X W (.For tg iter body [] pos) (sx_for it t f) := fun G F0 H0 => PS.imp (ps_for hp hc (hi G F0 H0) hg (hb G F0 H0) hs) fun _ _ _ h => forx_read (c := enOf X W G F0 H0) h
theorem qT_t {A B : Hp → Prop} {F H : Hp} (h : A H) : qT (fun b H1 => if b = true then A H1 else B H1) true F H := by
  show if true = true then A H else B H
  rw [if_pos rfl]; exact h
theorem qT_f {A B : Hp → Prop} {F H : Hp} (h : B H) : qT (fun b H1 => if b = true then A H1 else B H1) false F H := by
  show if false = true then A H else B H
  rw [if_neg Bool.false_ne_true]; exact h
def whileX (c : Xf Bool) (b : Sx) : Nat → Sx
  | 0, _ => none
  | n + 1, ρ => match c ρ with
    | none => none
    | some (.er k d ρ') => some (.er k d ρ')
    | some (.ok false ρ') => some (.fl (.nx ρ'))
    | some (.ok true ρ') => match b ρ' with
      | some (.fl (.nx ρ2)) => whileX c b n ρ2
      | some (.fl (.ct ρ2)) => whileX c b n ρ2
      | some (.fl (.bk ρ2)) => some (.fl (.nx ρ2))
      | r => r
theorem whilex_read {c : En} {fc : Xf Bool} {n : Nat} {D : Ends} {σ : St} {H : Hp} (h : tSX c (whileX fc f n) D σ H) : tWhile (tXT c fc) (tSX c f) D σ H := by
  obtain ⟨ρ, F, r, E, hf, q⟩ := h
  refine ⟨fun m σ' H' => ∃ ρ' F', EnvT c ρ' σ' F' H' ∧ Same F F' ∧ whileX fc f m ρ' = some r, ⟨n, ρ, F, E, Same.refl _, hf⟩, ?_⟩
  rintro m σ' H' ⟨ρ', F', ⟨own, E'⟩, sf, hr⟩
  cases m with
  | zero => cases hr
  | succ m =>
    unfold whileX at hr
    split at hr
    · cases hr
    · rename_i k d ρ1 hc
      cases hr
      exact ⟨own, ρ', F', _, E', hc, fun cls dx F1 H1 x1 E1 he => q cls dx σ' F1 H1 (sf.trans x1.ff) ⟨own, E1⟩ he⟩
    · rename_i ρ1 hc
      cases hr
      refine ⟨own, ρ', F', _, E', hc, fun F1 H1 x1 E1 => qT_f ?_⟩
      exact q σ' F1 H1 (sf.trans x1.ff) ⟨own, E1⟩
    · rename_i ρ1 hc
      refine ⟨own, ρ', F', _, E', hc, fun F1 H1 x1 E1 => qT_t ?_⟩
      refine ⟨fun σ'' H'' => ∃ ρ' F', EnvT c ρ' σ'' F' H'' ∧ Same F F' ∧ whileX fc f m ρ' = some r, fun σ'' H'' z => ⟨m, Nat.lt_succ_self _, z⟩, ?_⟩
      split at hr
      · rename_i ρ2 hb2
        exact ⟨ρ1, F1, _, ⟨own, E1⟩, hb2, fun σ3 F3 H3 s3 E3 => ⟨ρ2, F3, E3, (sf.trans x1.ff).trans s3, hr⟩⟩
      · rename_i ρ2 hb2
        exact ⟨ρ1, F1, _, ⟨own, E1⟩, hb2, fun σ3 F3 H3 s3 E3 => ⟨ρ2, F3, E3, (sf.trans x1.ff).trans s3, hr⟩⟩
      · rename_i ρ2 hb2
        cases hr
        exact ⟨ρ1, F1, _, ⟨own, E1⟩, hb2, fun σ3 F3 H3 s3 E3 => q σ3 F3 H3 ((sf.trans x1.ff).trans s3) E3⟩
      · rename_i r' n1 n2 n3
        refine ⟨ρ1, F1, r, ⟨own, E1⟩, hr, ?_⟩
        cases r with
        | er k d ρ2 => exact fun cls dx σ3 F3 H3 s3 E3 he => q cls dx σ3 F3 H3 ((sf.trans x1.ff).trans s3) E3 he
        | fl r =>
          cases r with
          | rt d ρ2 => exact fun v σ3 F3 H3 s3 E3 hv => q v σ3 F3 H3 ((sf.trans x1.ff).trans s3) E3 hv
          | nx ρ2 => exact absurd hr (by intro z; exact n1 ρ2 z)
          | ct ρ2 => exact absurd hr (by intro z; exact n2 ρ2 z)
          | bk ρ2 => exact absurd hr (by intro z; exact n3 ρ2 z)
theorem sx_while_ok {c : Expr} {body : List Stmt} {fc : Xf Bool} (n : Nat) (hp : PassesOwn (model X.prog X.w) X.A X.env X.xe) (hc : DXT X W c fc) (hb : SXs X W body f) : SX X W (.While c body [] pos) (whileX fc f n) := fun G F0 H0 =>
  PS.imp (ps_while hp (hc G F0 H0) (hb G F0 H0)) fun _ _ _ h => whilex_read (c := enOf X W G F0 H0) h
end

/-- from here on a name's own list stays (no statement) -/
def sx_frz (i : Nat) (f : Sx) : Sx := fun ρ => match ρ[i]? with
  | some (.ow ds) => f (ρ.set i (.im (.list ds)))
  | _ => none
theorem frzx_read {c : En} {i : Nat} {f : Sx} {D : Ends} {σ : St} {H : Hp} (h : tSX c (sx_frz i f) D σ H) : tSX c f D σ H := by
  obtain ⟨ρ, F, r, E, hf, q⟩ := h
  unfold sx_frz at hf
  split at hf
  · rename_i ds hds
    obtain ⟨own, A⟩ := E
    obtain ⟨a, xs, hs, ho, hx, hz, h2, hF, h0, hG⟩ := A.ow hds
    obtain ⟨A', sm, hd⟩ := A.freeze hds hs hx
    exact ⟨_, _, r, ⟨_, A'⟩, hf, q.up sm⟩
  · cases hf
theorem sxs_frz {X : Cx} {W : WX} {f : Sx} (i : Nat) {sts : List Stmt} (h : SXs X W sts f) : SXs X W sts (sx_frz i f) := fun G F0 H0 => PSs.imp (h G F0 H0) fun _ _ _ z => frzx_read z

/-! ### several names at once -/
inductive Pv where
  | im (d : Da)
  | ow (ds : List Da)
inductive PvAll (c : En) (own : Nat → List Addr) (F H : Hp) : List V → List Pv → Prop
  | nil : PvAll c own F H [] []
  | im {v : V} {d : Da} {vs : List V} {ps : List Pv} : Dv c.K F v d → PvAll c own F H vs ps → PvAll c own F H (v :: vs) (.im d :: ps)
  | ow {p : Addr} {xs : List V} {ds : List Da} {vs : List V} {ps : List Pv} : H p = some (.lst xs) → xs.length ≤ sizeLine → F p = none → c.H0 p = none → p ∉ c.G → (∀ j, p ∉ own j) → DvAll c.K F xs ds → (∀ v ∈ vs, v ≠ .ref p) → PvAll c own F H vs ps → PvAll c own F H (.ref p :: vs) (.ow ds :: ps)
theorem PvAll.len {c : En} {own : Nat → List Addr} {F H : Hp} : ∀ {vs : List V} {ps : List Pv}, PvAll c own F H vs ps → vs.length = ps.length
  | _, _, .nil => rfl
  | _, _, .im _ t => by simp [PvAll.len t]
  | _, _, .ow _ _ _ _ _ _ _ _ t => by simp [PvAll.len t]
theorem PvAll.noRef {c : En} {own : Nat → List Addr} {F H : Hp} {p : Addr} (hF : F p = none) (hp : ∀ q, (V.ref q) = .ref p → H p ≠ none → False) : ∀ {vs : List V} {ps : List Pv}, PvAll c own F H vs ps → H p ≠ none → ∀ v ∈ vs, v ≠ .ref p := by
  intro vs ps h hn v hv e
  exact hp p rfl hn
def tXP (c : En) (f : Xf (List Pv)) : TA := fun σ H Q => ∃ own ρ F r, EnvC c own ρ σ F H ∧ f ρ = some r ∧ roPost c own σ F H (fun ps F' H' => ∀ vs, PvAll c own F' H' vs ps → (∀ p, .ref p ∈ vs → F' p = none → H p = none) → Q vs H') r
abbrev DXP (X : Cx) (W : WX) (es : List Expr) (f : Xf (List Pv)) : Prop := ∀ G F0 H0, PA X es (tXP (enOf X W G F0 H0) f)
def xp_im (f : Xf Da) (g : Xf (List Pv)) : Xf (List Pv) := bindX f fun d => bindX g fun ps => retX (if isSc d = false then some (.im d :: ps) else none)
def xp_ow (f : Xf (List Da)) (g : Xf (List Pv)) : Xf (List Pv) := bindX f fun ds => bindX g fun ps => retX (some (.ow ds :: ps))
def xp_nil : Xf (List Pv) := retX (some [])
section
variable {X : Cx} {W : WX} {e : Expr} {es : List Expr} {f : Xf Da} {l : Xf (List Da)} {g : Xf (List Pv)} {pos : Pos}
theorem dxp_nil : DXP X W [] xp_nil := fun G F0 H0 => PA.imp pa_nil fun σ H Q ⟨own, ρ, F, r, E, hf, q⟩ => by
  cases hf
  exact q F H (.refl E.sub) E _ .nil (fun _ z => nomatch z)
theorem dv_ref {K : PySem.W.Frag} {F : Hp} {p : Addr} {d : Da} (c : isSc d = false) (h : Dv K F (.ref p) d) : F p ≠ none := by
  intro z
  cases h <;> first | (cases c; done) | simp_all
theorem dxp_im (h : DX X W e f) (t : DXP X W es g) (hs : starEach (e :: es) X.env = (false, eval e X.env) :: starEach es X.env := by rfl) : DXP X W (e :: es) (xp_im f g) := fun G F0 H0 => by
  refine PA.imp (pa_cons (h G F0 H0) (t G F0 H0) hs) fun σ H Q ⟨own, ρ, F, r, E, hf, q⟩ => ?_
  obtain ⟨r1, h1, q1⟩ := ro_step hf q
  refine ⟨own, ρ, F, r1, E, h1, q1.mono fun d F1 H1 ⟨x1, ρ1, r', E1, h2, q2⟩ v hv => ?_⟩
  obtain ⟨r2, h3, q3⟩ := ro_step h2 q2
  refine ⟨own, ρ1, F1, r2, E1, h3, q3.mono fun ds F2 H2 ⟨x2, ρ2, r'', E2, h4, q4⟩ vs hvs hn => ?_⟩
  obtain ⟨z0, ho, rfl, q5⟩ := ro_ret h4 q4
  split at ho
  · rename_i hsc
    cases ho
    refine q5 F2 H2 (.refl E2.sub) E2 _ (.im (hv.up x2.ff) hvs) fun p hp hF => ?_
    rcases List.mem_cons.mp hp with z | z
    · rw [← z] at hv
      exact absurd hF (dv_ref hsc (hv.up x2.ff))
    · exact x1.non (hn p z hF)
  · cases ho
theorem dxp_ow (h : DXN X W e l) (t : DXP X W es g) (hs : starEach (e :: es) X.env = (false, eval e X.env) :: starEach es X.env := by rfl) : DXP X W (e :: es) (xp_ow l g) := fun G F0 H0 => by
  refine PA.imp (pa_cons (h G F0 H0) (t G F0 H0) hs) fun σ H Q ⟨own, ρ, F, r, E, hf, q⟩ => ?_
  obtain ⟨r1, h1, q1⟩ := ro_step hf q
  refine ⟨own, ρ, F, r1, E, h1, q1.mono fun ds F1 H1 ⟨x1, ρ1, r', E1, h2, q2⟩ p xs hF hH hp hz hv => ?_⟩
  obtain ⟨r2, h3, q3⟩ := ro_step h2 q2
  refine ⟨own, ρ1, F1, r2, E1, h3, q3.mono fun ps F2 H2 ⟨x2, ρ2, r'', E2, h4, q4⟩ vs hvs hn => ?_⟩
  cases h4
  obtain ⟨g1, g2, g3⟩ := E.fresh hH
  have np : ¬ Own own p := fun ⟨j, hj⟩ => g3 j hj
  have hF2 := x2.nw p _ hp hF
  refine q4 F2 H2 (.refl E2.sub) E2 _ (.ow (x2.hh p _ np noTbl_lst hp) hz hF2 g2 g1 g3 (hv.up x2.ff) (fun v hv' e => ?_) hvs) fun p' hp' hF' => ?_
  · subst e
    have := hn p hv' hF2
    rw [hp] at this; cases this
  · rcases List.mem_cons.mp hp' with z | z
    · cases z; exact hH
    · exact x1.non (hn p' z hF')
def setP : List Nat → List Pv → DEnv → DEnv
  | i :: is, .im d :: ps, ρ => setP is ps (ρ.set i (.im d))
  | i :: is, .ow ds :: ps, ρ => setP is ps (ρ.set i (.ow ds))
  | _, _, ρ => ρ
theorem PvAll.drop {c : En} {own own' : Nat → List Addr} {F H : Hp} : ∀ {vs : List V} {ps : List Pv}, PvAll c own F H vs ps → (∀ p, .ref p ∈ vs → F p = none → ∀ j, p ∈ own' j → p ∈ own j) → PvAll c own' F H vs ps
  | _, _, .nil, _ => .nil
  | _, _, .im h t, k => .im h (PvAll.drop t fun p hp => k p (List.mem_cons_of_mem _ hp))
  | _, _, .ow h1 h2 h3 h4 h5 h6 h7 h8 t, k => .ow h1 h2 h3 h4 h5 (fun j hj => h6 j (k _ List.mem_cons_self h3 j hj)) h7 h8 (PvAll.drop t fun p hp => k p (List.mem_cons_of_mem _ hp))
theorem set_pv {c : En} {F H : Hp} : ∀ (is : List Nat) {vs : List V} {ps : List Pv} {own : Nat → List Addr} {ρ : DEnv} {σ : St}, PvAll c own F H vs ps → EnvC c own ρ σ F H → EnvT c (setP is ps ρ) (setAll is vs σ) F H
  | [], _, ps, _, _, _, _, E => by
    have e : ∀ ρ, setP [] ps ρ = ρ := fun ρ => by cases ps <;> rfl
    rw [e]; unfold setAll; exact ⟨_, E⟩
  | i :: is, _, _, _, _, _, .nil, E => by unfold setP setAll; exact ⟨_, E⟩
  | i :: is, _, _, own, ρ, σ, .im h t, E => by
    show EnvT c (setP is _ (ρ.set i _)) (setAll is _ (σ.set i _)) F H
    exact set_pv is (t.drop (own' := dropO own i) fun p _ _ j hj => by
      unfold dropO at hj
      by_cases z : j = i
      · rw [if_pos z] at hj; cases hj
      · rw [if_neg z] at hj; exact hj) (E.setImA i h)
  | i :: is, _, _, own, ρ, σ, .ow (p := p) h1 h2 h3 h4 h5 h6 h7 h8 t, E => by
    show EnvT c (setP is _ (ρ.set i _)) (setAll is _ (σ.set i _)) F H
    refine set_pv is (t.drop (own' := fun j => if j = i then [p] else own j) fun p' hp' _ j hj => ?_) (E.setOw i h1 h2 h3 h4 h5 h6 h7)
    by_cases z : j = i
    · rw [if_pos z] at hj
      exact absurd (by rw [List.mem_singleton.mp hj]) (h8 _ hp')
    · rw [if_neg z] at hj; exact hj
theorem PvAll.putH {c : En} {own : Nat → List Addr} {F H : Hp} {q : Addr} {o : HO} (hq : H q = none) : ∀ {vs : List V} {ps : List Pv}, PvAll c own F H vs ps → PvAll c own F (upd H q o) vs ps
  | _, _, .nil => .nil
  | _, _, .im h t => .im h (PvAll.putH hq t)
  | _, _, .ow h1 h2 h3 h4 h5 h6 h7 h8 t => .ow (by rw [upd_ne (ne_of_none h1 hq)]; exact h1) h2 h3 h4 h5 h6 h7 h8 (PvAll.putH hq t)
def sx_par (is : List Nat) (l : Xf (List Pv)) : Sx := sx_with l fun ps ρ => if ps.length = is.length then some (.fl (.nx (setP is ps ρ))) else none
theorem sx_par2_ok {i j : Nat} {x y : Str} {a b : Expr} {px py pt : Pos} {kt k2 : Nat} {pt2 : Pos} (hN : X.N.Nodup) (ha : DXP X W [a, b] g) (hi : X.N[i]? = some x := by rfl) (hj : X.N[j]? = some y := by rfl) (hij : i ≠ j := by decide)
    (hx : X.env.scope.names.lookup x = some .local := by rfl) (hy : X.env.scope.names.lookup y = some .local := by rfl) (hc : X.calm = true := by rfl)
    (hw : swappedStores [.Tuple [.Name x px, .Name y py] kt pt] (.Tuple [a, b] k2 pt2) X.env = pure (some [x, y]) := by rfl)
    (hs : swapsWithSole [.Tuple [.Name x px, .Name y py] kt pt] (.Tuple [a, b] k2 pt2) pos.line X.env = pure false := by rfl) :
    SX X W (.Assign [.Tuple [.Name x px, .Name y py] kt pt] (.Tuple [a, b] k2 pt2) pos) (sx_par [i, j] g) := fun G F0 H0 => by
  refine PS.imp (ps_par hc hN hi hj hij hx hy (ha G F0 H0) hw hs) fun D σ H h => ?_
  obtain ⟨own, ρ, F, r, E, h1, q⟩ := with_read h
  refine ⟨own, ρ, F, r, E, h1, q.mono fun ps F1 H1 ⟨x1, ρ1, r', E1, h2, q2⟩ vs hvs hn => ?_⟩
  split at h2
  · rename_i hl
    cases h2
    have hl2 := hvs.len
    rw [hl] at hl2
    match vs, hl2 with
    | [v, w], _ => exact ⟨v, w, rfl, q2 _ F1 H1 (Same.refl _) (set_pv [i, j] hvs E1)⟩
  · cases h2
theorem sx_par3_ok {i j k : Nat} {x y z : Str} {a b c : Expr} {px py pz pt : Pos} {kt k2 : Nat} {pt2 : Pos} (hN : X.N.Nodup) (ha : DXP X W [a, b, c] g) (hi : X.N[i]? = some x := by rfl) (hj : X.N[j]? = some y := by rfl) (hk : X.N[k]? = some z := by rfl) (hij : i ≠ j := by decide) (hik : i ≠ k := by decide) (hjk : j ≠ k := by decide)
    (hx : X.env.scope.names.lookup x = some .local := by rfl) (hy : X.env.scope.names.lookup y = some .local := by rfl) (hz : X.env.scope.names.lookup z = some .local := by rfl) (hc : X.calm = true := by rfl)
    (hw : swappedStores [.Tuple [.Name x px, .Name y py, .Name z pz] kt pt] (.Tuple [a, b, c] k2 pt2) X.env = pure (some [x, y, z]) := by rfl)
    (hs : swapsWithSole [.Tuple [.Name x px, .Name y py, .Name z pz] kt pt] (.Tuple [a, b, c] k2 pt2) pos.line X.env = pure false := by rfl) :
    SX X W (.Assign [.Tuple [.Name x px, .Name y py, .Name z pz] kt pt] (.Tuple [a, b, c] k2 pt2) pos) (sx_par [i, j, k] g) := fun G F0 H0 => by
  refine PS.imp (ps_par3 hc hN hi hj hk hij hik hjk hx hy hz (ha G F0 H0) hw hs) fun D σ H h => ?_
  obtain ⟨own, ρ, F, r, E, h1, q⟩ := with_read h
  refine ⟨own, ρ, F, r, E, h1, q.mono fun ps F1 H1 ⟨x1, ρ1, r', E1, h2, q2⟩ vs hvs hn => ?_⟩
  split at h2
  · rename_i hl
    cases h2
    have hl2 := hvs.len
    rw [hl] at hl2
    match vs, hl2 with
    | [u, v, w], _ => exact ⟨u, v, w, rfl, q2 _ F1 H1 (Same.refl _) (set_pv [i, j, k] hvs E1)⟩
  · cases h2
/-- by a tuple made and taken apart (a name of a cell among them) -/
theorem sx_parT_ok {is : List Nat} {ts vs0 : List Expr} {pt : Pos} {kt k2 : Nat} {pt2 : Pos} (ha : DXP X W vs0 g) (hg : PGs X ts (gs is)) (hz : is.length ≤ 1000) (hn : (assignEach ts X.env).length = is.length := by rfl) (hst : (assignEach ts X.env).findIdx? (·.1) = none := by rfl) (hc : X.calm = true := by rfl)
    (hs : swapsWithSole [.Tuple ts kt pt] (.Tuple vs0 k2 pt2) pos.line X.env = pure false := by rfl) (hw : swappedStores [.Tuple ts kt pt] (.Tuple vs0 k2 pt2) X.env = pure none := by rfl)
    (h1 : (assignEach [.Tuple ts kt pt] X.env).map (·.2) = [assign (.Tuple ts kt pt) X.env] := by rfl) : SX X W (.Assign [.Tuple ts kt pt] (.Tuple vs0 k2 pt2) pos) (sx_par is g) := fun G F0 H0 => by
  refine PS.imp (ps_asg (pe_tup (ha G F0 H0)) (pg_tup hc hg hn hst) hs hw h1) fun D σ H h => ?_
  obtain ⟨own, ρ, F, r, E, h1, q⟩ := with_read h
  refine ⟨own, ρ, F, r, E, h1, q.mono fun ps F1 H1 ⟨x1, ρ1, r', E1, h2, q2⟩ vs hvs hn => ?_⟩
  split at h2
  · rename_i hl
    cases h2
    have hl2 := hvs.len
    rw [hl] at hl2
    refine ⟨by have := sizeLine_eq; omega, fun p hp => ⟨p, vs, rfl, SqT.of upd_same, hl2, gs_read is _ _ _ _ hl2 ?_⟩⟩
    have y := Ext.new (o := .tup vs) E1.sub hp
    obtain ⟨p1, p2, p3⟩ := E1.fresh hp
    have E2 := E1.putN (o := .tup vs) (E1.sub.free hp) p2 p1 p3
    have hvs2 : PvAll (enOf X W G F0 H0) own F1 (upd H1 p (.tup vs)) vs ps := hvs.putH hp
    exact q2 _ F1 _ (Same.refl _) (set_pv is hvs2 E2)
  · cases h2
end
end DD
end

section
set_option Elab.async false
set_option linter.all false
set_option maxRecDepth 100000
set_option maxHeartbeats 2000000
/-! The data layer: defs that raise, that change a list; defs that hand a new list back. -/
namespace DD
open PySem PySem.Spec PyProof.Rows L2

def runX (nN : Nat) (f : Sx) (ds : List Da) : Option Rp := match f (startE nN ds) with
  | some (.fl (.rt d _)) => some (.ok d)
  | some (.fl (.nx _)) => some (.ok .none)
  | some (.er k d _) => some (.er k d)
  | _ => none
def startG (nN : Nat) (gs ds : List Da) : DEnv := .gn gs :: (ds.map .im ++ List.replicate (nN - 1 - ds.length) .no)
def gsAt (ρ : DEnv) (r : Rp) : Option (Rp × List Da) := match ρ[(0 : Nat)]? with
  | some (.gn gs) => some (r, gs)
  | _ => none
def runG (nN : Nat) (f : Sx) (gs ds : List Da) : Option (Rp × List Da) := match f (startG nN gs ds) with
  | some (.fl (.rt d ρ)) => gsAt ρ (.ok d)
  | some (.fl (.nx ρ)) => gsAt ρ (.ok .none)
  | some (.er k d ρ) => gsAt ρ (.er k d)
  | _ => none
theorem gsAt_of {K : PySem.W.Frag} {a : Addr} {F0 H0 F H : Hp} {ρ : DEnv} {σ : St} {r : Rp} {r' : Rp × List Da} (h : gsAt ρ r = some r') (E : EnvAt K [a] F0 H0 ρ σ F H) : r'.1 = r ∧ ∃ xs', H a = some (.lst xs') ∧ xs'.length ≤ sizeLine ∧ DvAll K F xs' r'.2 := by
  unfold gsAt at h
  split at h
  · rename_i gs hg
    cases h
    obtain ⟨own, E⟩ := E
    obtain ⟨b, xs, hs, ho, h1, hz, h2, hF⟩ := E.lsAt hg (ds := gs) rfl
    have hb : b ∈ [a] := E.gn 0 _ b hg (by rw [ho]; exact List.mem_singleton.mpr rfl)
    rw [List.mem_singleton.mp hb] at h1
    exact ⟨rfl, xs, h1, hz, h2⟩
  · cases h
theorem startG_env {K : PySem.W.Frag} {F H : Hp} {N : List Str} {a : Addr} {xs ws : List V} {gs ds : List Da} (s : Same F H) (hnt : Nt F) (hF : F a = none) (h1 : H a = some (.lst xs)) (hz : xs.length ≤ sizeLine) (h2 : DvAll K F xs gs) (h : DvAll K F ws ds) (hl : ws.length + 1 ≤ N.length) : EnvAt K [a] F H (startG N.length gs ds) (start N (.ref a :: ws)) F H := by
  refine ⟨fun i => if i = 0 then [a] else [], ⟨⟨s, ?_, fun i e s' q1 q2 => ?_, fun i b hb => ?_, hnt, fun i j b hb hc => ?_⟩, ExtG.of (Ext.refl s), fun b hb => ?_, fun i b hb => ?_, fun i m b e hb => ?_⟩⟩
  · unfold startG L2.start
    have := h.len
    simp only [List.length_cons, List.length_append, List.length_map, List.length_replicate]
    omega
  · cases i with
    | zero =>
      cases q1; cases q2
      exact .gn h1 hz h2
    | succ i =>
      unfold startG at q1
      unfold L2.start at q2
      rw [List.getElem?_cons_succ] at q1
      have q2' : (ws.map some ++ List.replicate (N.length - (ws.length + 1)) none)[i]? = some s' := q2
      by_cases hi : i < ds.length
      · rw [List.getElem?_append_left (by simpa using hi), List.getElem?_map, List.getElem?_eq_getElem hi] at q1
        rw [List.getElem?_append_left (by rw [List.length_map, h.len]; exact hi), List.getElem?_map] at q2'
        cases q1
        obtain ⟨v, e1, e2⟩ := h.getD (List.getElem?_eq_getElem hi)
        rw [e1] at q2'
        cases q2'
        exact .im e2
      · rw [List.getElem?_append_right (by simpa using hi), List.getElem?_replicate] at q1
        split at q1
        · cases q1; exact .no
        · cases q1
  · by_cases z : i = 0
    · rw [if_pos z] at hb
      rw [List.mem_singleton.mp hb]
      exact ⟨hF, xs, h1⟩
    · rw [if_neg z] at hb; cases hb
  · by_cases z : i = 0
    · by_cases y : j = 0
      · rw [z, y]
      · rw [if_neg y] at hc; cases hc
    · rw [if_neg z] at hb; cases hb
  · rw [List.mem_singleton.mp hb]
    exact ⟨_, h1, xs, h1⟩
  · by_cases z : i = 0
    · rw [if_pos z] at hb
      subst z
      exact .inr ⟨hb, gs, rfl⟩
    · rw [if_neg z] at hb; cases hb
  · by_cases z : i = 0
    · rw [if_pos z] at hb; exact hb
    · rw [if_neg z] at hb; cases hb

section
variable {P : Program} {w : World} {K : PySem.W.Frag} {mg : Str → Option Value} {base : Heap} {x qual : Str} {params : Arguments} {body : List Stmt} {scope : Scope} {dvs : List V} {kws : List (Str × V)} {f : Addr} {fd : FuncData} {N ps : List Str} {k : Nat}
/-- what a def's body lets out -/
theorem takes_cx {cdv : Value} {A : Around} {outer : List Env} {s : Shared} {H : Hp} {E : XK} : Takes (cxOf (L2.CX P w) P w K mg base N qual scope f cdv A outer s H E) (fun cls d _ H => E cls d H) :=
  takes_of (X := cxOf (L2.CX P w) P w K mg base N qual scope f cdv A outer s H E) rfl rfl rfl rfl
theorem passes_cx {cdv : Value} {A : Around} {outer : List Env} {s : Shared} {H : Hp} {E : XK} {CX : CXT} : PassesOwn (model P w) (cxOf CX P w K mg base N qual scope f cdv A outer s H E).A (cxOf CX P w K mg base N qual scope f cdv A outer s H E).env (cxOf CX P w K mg base N qual scope f cdv A outer s H E).xe :=
  passes_of (X := cxOf CX P w K mg base N qual scope f cdv A outer s H E) (K := CX outer H s E) (E₁ := fun e' s'' => CX outer H s E e' s'') rfl
/-- a body's promise, in every state that it may be entered at -/
abbrev BodX (P : Program) (w : World) (K : PySem.W.Frag) (mg : Str → Option Value) (base : Heap) (N : List Str) (qual : Str) (scope : Scope) (f : Addr) (k : Nat) (body : List Stmt) (sf : Sx) : Prop :=
  ∀ (W : WX) (cdv : Value) (A : Around) (outer : List Env) (s : Shared) (H : Hp) (E : XK), Room k (A.deeper (envOfC qual scope s.heap.objs.size f cdv)) → Takes (cxOf (L2.CX P w) P w K mg base N qual scope f cdv A outer s H E) W → SXs (cxOf (L2.CX P w) P w K mg base N qual scope f cdv A outer s H E) W body sf
theorem def_okX {o : List Da → Option Rp} {sf : Sx} (D : FunD K x qual params body scope dvs kws f fd) (S : FnScope N ps scope) (ho : ∀ ds r, o ds = some r → runX N.length sf ds = some r) (h : BodX P w K mg base N qual scope f k body sf) :
    FnOk P w K mg base (L2.CX P w) (k + 1) f fd ps (spX K mg ps.length o) := by
  refine D.ok S (fun vs H Q E z => z.1) fun cdv A outer s H vs Q E hr z => ?_
  obtain ⟨hl, F, ds, r, sub, hnt, hv, hor, q⟩ := z
  refine ⟨_, h _ cdv A outer s H E hr takes_cx [] F H, ?_⟩
  have hpl : ps.length ≤ N.length := by have := congrArg List.length S.pre; rw [List.length_take] at this; omega
  have hrun := ho ds r hor
  unfold runX at hrun
  split at hrun
  · rename_i d ρ' e
    cases hrun
    exact ⟨_, F, _, start_env sub hnt hv (by omega), e, fun v σ' F' H' s' E' hd => q F' H' E'.xg.nil v hd⟩
  · rename_i ρ' e
    cases hrun
    exact ⟨_, F, _, start_env sub hnt hv (by omega), e, fun σ' F' H' s' E' => q F' H' E'.xg.nil _ .non⟩
  · rename_i kk d ρ' e
    cases hrun
    exact ⟨_, F, _, start_env sub hnt hv (by omega), e, fun cls dx σ' F' H' s' E' he => q F' H' E'.xg.nil cls dx he⟩
  · cases hrun
theorem def_okG {o : List Da → List Da → Option (Rp × List Da)} {sf : Sx} {n : Nat} (hn : ps.length = n + 1) (D : FunD K x qual params body scope dvs kws f fd) (S : FnScope N ps scope) (ho : ∀ gs ds r, o gs ds = some r → runG N.length sf gs ds = some r) (h : BodX P w K mg base N qual scope f k body sf) :
    FnOk P w K mg base (L2.CX P w) (k + 1) f fd ps (spG K mg n o) := by
  refine D.ok S (fun vs H Q E z => z.1.trans hn.symm) fun cdv A outer s H vs Q E hr z => ?_
  obtain ⟨hl, a, ws, xs, F, gs, ds, r, rfl, sub, hnt, hF, h1, hz, h2, hv, hor, q⟩ := z
  refine ⟨_, h _ cdv A outer s H E hr takes_cx [a] F H, ?_⟩
  have hpl : ps.length ≤ N.length := by have := congrArg List.length S.pre; rw [List.length_take] at this; omega
  have hwl : ws.length + 1 ≤ N.length := by rw [List.length_cons] at hl; omega
  have hrun := ho gs ds r hor
  have E0 := startG_env sub hnt hF h1 hz h2 hv hwl
  unfold runG at hrun
  split at hrun
  · rename_i d ρ' e
    refine ⟨_, F, _, E0, e, fun v σ' F' H' s' E' hd => ?_⟩
    obtain ⟨e1, xs', e2, e3, e4⟩ := gsAt_of hrun E'
    have := q xs' F' H' E'.xg e2 e3 e4
    rw [e1] at this
    exact this v hd
  · rename_i ρ' e
    refine ⟨_, F, _, E0, e, fun σ' F' H' s' E' => ?_⟩
    obtain ⟨e1, xs', e2, e3, e4⟩ := gsAt_of hrun E'
    have := q xs' F' H' E'.xg e2 e3 e4
    rw [e1] at this
    exact this _ .non
  · rename_i kk d ρ' e
    refine ⟨_, F, _, E0, e, fun cls dx σ' F' H' s' E' he => ?_⟩
    obtain ⟨e1, xs', e2, e3, e4⟩ := gsAt_of hrun E'
    have := q xs' F' H' E'.xg e2 e3 e4
    rw [e1] at this
    exact this cls dx he
  · cases hrun
theorem calX_of {o : List Da → Option Rp} {sf : Sx} {n : Nat}
    (D : FunD K x qual params body scope [] [] f fd) (m : mg x = some (.ref f)) (S : FnScope N ps scope) (hn : ps.length = n) (ho : ∀ ds r, o ds = some r → runX N.length sf ds = some r)
    (hb : ∀ (kV doc pm : Value) (an : Option Addr) (cdv ct : Value) (us : List Value), us.length = ps.length → bindArgs (PySem.W.fnOf x qual params body scope .none kV doc pm an cdv ct) ⟨us, []⟩ = pure (ps.zip us))
    (h : BodX P w K mg base N qual scope f k body sf) : CalX P w K mg base (k + 1) x n o := by
  subst hn
  exact ⟨f, fd, ps, def_okX D S ho h, m, D.kp, D.bindsN hb⟩
theorem calG_of {o : List Da → List Da → Option (Rp × List Da)} {sf : Sx} {n : Nat}
    (D : FunD K x qual params body scope [] [] f fd) (m : mg x = some (.ref f)) (S : FnScope N ps scope) (hn : ps.length = n + 1) (ho : ∀ gs ds r, o gs ds = some r → runG N.length sf gs ds = some r)
    (hb : ∀ (kV doc pm : Value) (an : Option Addr) (cdv ct : Value) (us : List Value), us.length = ps.length → bindArgs (PySem.W.fnOf x qual params body scope .none kV doc pm an cdv ct) ⟨us, []⟩ = pure (ps.zip us))
    (h : BodX P w K mg base N qual scope f k body sf) : CalG P w K mg base (k + 1) x n o :=
  ⟨f, fd, ps, def_okG hn D S ho h, m, D.kp, D.bindsN hb⟩
/-- the def's functions of data -/
def defX (n nN : Nat) (sf : Sx) (ds : List Da) : Option Rp := if ds.length = n then runX nN sf ds else none
def defG (n nN : Nat) (sf : Sx) (gs ds : List Da) : Option (Rp × List Da) := if ds.length = n then runG nN sf gs ds else none
theorem defX_run {n nN : Nat} {sf : Sx} : ∀ ds r, defX n nN sf ds = some r → runX nN sf ds = some r := fun ds r h => by
  unfold defX at h
  split at h
  · exact h
  · cases h
theorem defG_run {n nN : Nat} {sf : Sx} : ∀ gs ds r, defG n nN sf gs ds = some r → runG nN sf gs ds = some r := fun gs ds r h => by
  unfold defG at h
  split at h
  · exact h
  · cases h

/-! ### a new list handed back -/
def spN (K : PySem.W.Frag) (n : Nat) (o : List Da → Option (List Da)) : Sp := fun vs H Q _ => vs.length = n ∧ ∃ F ds r, Same F H ∧ Nt F ∧ DvAll K F vs ds ∧ o ds = some r ∧ ∀ p xs F' H', Ext F H F' H' → F' p = none → H p = none → H' p = some (.lst xs) → xs.length ≤ sizeLine → DvAll K F' xs r → Q (.ref p) H'
abbrev Nf := DEnv → Option (List Da)
def tNE (K : PySem.W.Frag) (G : List Addr) (F0 H0 : Hp) (f : Nf) : TS := fun D σ H => ∃ ρ F ds, EnvAt K G F0 H0 ρ σ F H ∧ f ρ = some ds ∧ ∀ p xs σ' ρ' F' H', Same F F' → EnvAt K G F0 H0 ρ' σ' F' H' → F' p = none → H0 p = none → H' p = some (.lst xs) → xs.length ≤ sizeLine → DvAll K F' xs ds → D.rt (.ref p) H'
abbrev NEs (X : Cx) (st : List Stmt) (f : Nf) : Prop := ∀ G F0 H0, PSs X st (tNE X.K G F0 H0 f)
section
variable {X : Cx} {st : Stmt} {rest : List Stmt} {e : Expr} {l : Lf} {pos : Pos} {sf : Sf} {g : Nf}
theorem nes_ret (h : DN X e l) : NEs X [.Return (some e) pos] l := fun G F0 H0 => PSs.imp (pss_one (ps_ret h)) fun D σ H ⟨ρ, F, ds, ⟨own, E⟩, hf, q⟩ =>
  ⟨ρ, F, ds, ⟨own, E.o⟩, hf, fun p xs F' H' x hF hH hp hz hv => q p xs σ ρ F' H' x.ff (EnvAt.ext ⟨own, E⟩ x) hF (E.fresh hH).2.1 hp hz hv⟩
def n_seq (f : Sf) (g : Nf) : Nf := fun ρ => match f ρ with
  | some (.nx ρ') => g ρ'
  | _ => none
theorem nes_cons (h1 : SE X st sf) (h2 : NEs X rest g) : NEs X (st :: rest) (n_seq sf g) := fun G F0 H0 => by
  refine PSs.imp (pss_cons (h1 G F0 H0) (h2 G F0 H0)) fun D σ H ⟨ρ, F, ds, E, hf, q⟩ => ?_
  unfold n_seq at hf
  split at hf
  · rename_i ρ' e
    exact ⟨ρ, F, _, E, e, fun σ' F' H' s E' => ⟨ρ', F', ds, E', hf, fun p xs σ2 ρ2 F2 H2 s2 E2 => q p xs σ2 ρ2 F2 H2 (s.trans s2) E2⟩⟩
  · cases hf
end
theorem def_okN {o : List Da → Option (List Da)} {nf : Nf} (D : FunD K x qual params body scope dvs kws f fd) (S : FnScope N ps scope) (ho : ∀ ds r, o ds = some r → nf (startE N.length ds) = some r)
    (h : ∀ (cdv : Value) (A : Around) (outer : List Env) (s : Shared) (H : Hp) (E : XK), Room k (A.deeper (envOfC qual scope s.heap.objs.size f cdv)) → NEs (cxOf CX0 P w K mg base N qual scope f cdv A outer s H E).nox body nf) :
    FnOk P w K mg base CX0 (k + 1) f fd ps (spN K ps.length o) := by
  refine D.ok S (fun vs H Q E z => z.1) fun cdv A outer s H vs Q E hr z => ?_
  obtain ⟨hl, F, ds, r, sub, hnt, hv, hor, q⟩ := z
  refine ⟨_, PSs.nox (h cdv A outer s H E hr [] F H), ?_⟩
  have hpl : ps.length ≤ N.length := by have := congrArg List.length S.pre; rw [List.length_take] at this; omega
  exact ⟨_, F, _, start_env sub hnt hv (by omega), ho ds r hor, fun p xs σ' ρ' F' H' s' E' hF hH hp hz hv => q p xs F' H' E'.xg.nil hF hH hp hz hv⟩
structure CalN (P : Program) (w : World) (K : PySem.W.Frag) (mg : Str → Option Value) (base : Heap) (k : Nat) (x : Str) (n : Nat) (o : List Da → Option (List Da)) : Prop where
  ex : ∃ f fd ps, FnOk P w K mg base CX0 k f fd ps (spN K n o) ∧ mg x = some (.ref f) ∧ PySem.W.keepIn K (.ref f) = true ∧ Binds K fd ps []
def defN (n nN : Nat) (nf : Nf) (ds : List Da) : Option (List Da) := if ds.length = n then nf (startE nN ds) else none
theorem defN_run {n nN : Nat} {nf : Nf} : ∀ ds r, defN n nN nf ds = some r → nf (startE nN ds) = some r := fun ds r h => by
  unfold defN at h
  split at h
  · exact h
  · cases h
theorem calN_of {o : List Da → Option (List Da)} {nf : Nf} {n : Nat}
    (D : FunD K x qual params body scope [] [] f fd) (m : mg x = some (.ref f)) (S : FnScope N ps scope) (hn : ps.length = n) (ho : ∀ ds r, o ds = some r → nf (startE N.length ds) = some r)
    (hb : ∀ (kV doc pm : Value) (an : Option Addr) (cdv ct : Value) (us : List Value), us.length = ps.length → bindArgs (PySem.W.fnOf x qual params body scope .none kV doc pm an cdv ct) ⟨us, []⟩ = pure (ps.zip us))
    (h : ∀ (cdv : Value) (A : Around) (outer : List Env) (s : Shared) (H : Hp) (E : XK), Room k (A.deeper (envOfC qual scope s.heap.objs.size f cdv)) → NEs (cxOf CX0 P w K mg base N qual scope f cdv A outer s H E).nox body nf) : CalN P w K mg base (k + 1) x n o := by
  subst hn
  exact ⟨f, fd, ps, def_okN D S ho h, m, D.kp, D.bindsN hb⟩
end
section
variable {X : Cx} {k j n : Nat} {x : Str} {p pos : Pos} {e : Expr} {es : List Expr} {l : Lf}
/-- a call that gives a new list -/
theorem dn_cal {o : List Da → Option (List Da)} (C : CalN X.prog X.w X.K X.mg X.base k x n o) (hr : Room j X.A) (hkj : k ≤ j) (ha : DA X (e :: es) l) (hll : ∀ ρ ds, l ρ = some ds → ds.length = n) (hg : Gl X x := by rfl) (hdb : (x == ("__debug__" : Str)) = false := by decide) (he : starEach (e :: es) X.env = (false, eval e X.env) :: starEach es X.env := by rfl) (hpl : (backTo pos (starEach es X.env)).any (·.1) = false := by rfl) :
    DN X (.Call (.Name x p) (e :: es) [] pos) (fun ρ => (l ρ).bind o) := by
  obtain ⟨f, fd, ps, F, m, kp, b⟩ := C.ex
  refine PE.imp (pe_call F (hr.mono hkj) hg m kp b .nil pass0 ha hdb he hpl) fun σ H Q ⟨ρ, F, d, E, hf, q⟩ => ?_
  obtain ⟨ds, h1, hf⟩ := Option.bind_eq_some_iff.mp hf
  refine ⟨ρ, F, ds, E, h1, fun vs F1 H1 x1 hv => ⟨by rw [List.append_nil, hv.len]; exact hll ρ ds h1, F1, ds, d, x1.fh, (E.ext x1).nt, by rw [List.append_nil]; exact hv, hf, fun p xs F2 H2 x2 hF hH hp hz hw => q p xs F2 H2 (x1.trans x2) hF ?_ hp hz hw⟩⟩
  exact x1.hh.none hH
end
end DD
end

section
set_option Elab.async false
set_option linter.all false
set_option maxRecDepth 100000
set_option maxHeartbeats 2000000
/-! The data layer: further built-ins. -/
namespace DD
open PySem PySem.Spec PyProof.Rows L2

/-! ### max, min of a list; tuple; abs; bool; str -/
def maxI : List Int → Option Int
  | [] => none
  | n :: ns => some (ns.foldl (fun a b => if b > a then b else a) n)
def minI : List Int → Option Int
  | [] => none
  | n :: ns => some (ns.foldl (fun a b => if b < a then b else a) n)
theorem maxF_mem : ∀ (ns : List Int) (n : Int), ns.foldl (fun a b => if b > a then b else a) n ∈ n :: ns
  | [], _ => List.mem_cons_self
  | m :: ns, n => by
    rw [List.foldl_cons]
    have h := maxF_mem ns (if m > n then m else n)
    rcases List.mem_cons.mp h with e | e
    · rw [e]
      split
      · exact List.mem_cons_of_mem _ List.mem_cons_self
      · exact List.mem_cons_self
    · exact List.mem_cons_of_mem _ (List.mem_cons_of_mem _ e)
theorem maxF_le : ∀ (ns : List Int) (n : Int), ∀ y ∈ n :: ns, y ≤ ns.foldl (fun a b => if b > a then b else a) n
  | [], n, y, h => by
    rcases List.mem_cons.mp h with e | e
    · rw [e]; exact Int.le_refl _
    · cases e
  | m :: ns, n, y, h => by
    rw [List.foldl_cons]
    have k := maxF_le ns (if m > n then m else n)
    have k0 := k _ List.mem_cons_self
    rcases List.mem_cons.mp h with e | e
    · subst e
      refine Int.le_trans ?_ k0
      split <;> omega
    · rcases List.mem_cons.mp e with e | e
      · subst e
        refine Int.le_trans ?_ k0
        split <;> omega
      · exact k y (List.mem_cons_of_mem _ e)
theorem minF_mem : ∀ (ns : List Int) (n : Int), ns.foldl (fun a b => if b < a then b else a) n ∈ n :: ns
  | [], _ => List.mem_cons_self
  | m :: ns, n => by
    rw [List.foldl_cons]
    have h := minF_mem ns (if m < n then m else n)
    rcases List.mem_cons.mp h with e | e
    · rw [e]
      split
      · exact List.mem_cons_of_mem _ List.mem_cons_self
      · exact List.mem_cons_self
    · exact List.mem_cons_of_mem _ (List.mem_cons_of_mem _ e)
theorem minF_le : ∀ (ns : List Int) (n : Int), ∀ y ∈ n :: ns, ns.foldl (fun a b => if b < a then b else a) n ≤ y
  | [], n, y, h => by
    rcases List.mem_cons.mp h with e | e
    · rw [e]; exact Int.le_refl _
    · cases e
  | m :: ns, n, y, h => by
    rw [List.foldl_cons]
    have k := minF_le ns (if m < n then m else n)
    have k0 := k _ List.mem_cons_self
    rcases List.mem_cons.mp h with e | e
    · subst e
      refine Int.le_trans k0 ?_
      split <;> omega
    · rcases List.mem_cons.mp e with e | e
      · subst e
        refine Int.le_trans k0 ?_
        split <;> omega
      · exact k y (List.mem_cons_of_mem _ e)
def c_max1 : List Da → Option Da
  | [.list xs] => (ints? xs).bind fun ns => (maxI ns).map .int
  | _ => none
def c_min1 : List Da → Option Da
  | [.list xs] => (ints? xs).bind fun ns => (minI ns).map .int
  | _ => none
section
variable {X : Cx}
theorem dc_max1 (hc : X.calm = true := by rfl) : DC X (.builtin "max") c_max1 := by
  refine CallR.imp (cr_max hc) fun vs H Q ⟨F, ds, r, sub, hv, ho, k⟩ => ?_
  unfold c_max1 at ho
  split at ho
  · obtain ⟨ns, e1, e2⟩ := Option.bind_eq_some_iff.mp ho
    obtain ⟨m, e3, rfl⟩ := Option.map_eq_some_iff.mp e2
    cases hv with
    | cons h1 h2 =>
      cases h2
      cases h1 with
      | lst h1 hz1 h2 =>
        cases ns with
        | nil => cases e3
        | cons n ns =>
          cases e3
          refine ⟨_, n :: ns, rfl, SqL.of (by rw [← ints_of h2 e1]; exact sub _ _ h1), Nat.succ_pos _, fun m hm hy => ?_⟩
          have e : m = ns.foldl (fun a b => if b > a then b else a) n := Int.le_antisymm (maxF_le ns n m hm) (hy _ (maxF_mem ns n))
          rw [e]
          exact k _ F H (Ext.refl sub) (.int _)
  · cases ho
theorem dc_min1 (hc : X.calm = true := by rfl) : DC X (.builtin "min") c_min1 := by
  refine CallR.imp (cr_min hc) fun vs H Q ⟨F, ds, r, sub, hv, ho, k⟩ => ?_
  unfold c_min1 at ho
  split at ho
  · obtain ⟨ns, e1, e2⟩ := Option.bind_eq_some_iff.mp ho
    obtain ⟨m, e3, rfl⟩ := Option.map_eq_some_iff.mp e2
    cases hv with
    | cons h1 h2 =>
      cases h2
      cases h1 with
      | lst h1 hz1 h2 =>
        cases ns with
        | nil => cases e3
        | cons n ns =>
          cases e3
          refine ⟨_, n :: ns, rfl, SqL.of (by rw [← ints_of h2 e1]; exact sub _ _ h1), Nat.succ_pos _, fun m hm hy => ?_⟩
          have e : m = ns.foldl (fun a b => if b < a then b else a) n := Int.le_antisymm (hy _ (minF_mem ns n)) (minF_le ns n m hm)
          rw [e]
          exact k _ F H (Ext.refl sub) (.int _)
  · cases ho
def c_abs : List Da → Option Da
  | [.int i] => some (.int (if i < 0 then -i else i))
  | _ => none
theorem dc_abs : DC X (.builtin "abs") c_abs := by
  refine CallR.imp call_abs fun vs H Q ⟨F, ds, r, sub, hv, ho, k⟩ => ?_
  unfold c_abs at ho
  split at ho
  · cases ho
    rw [one_int hv]
    exact ⟨_, rfl, k _ F H (Ext.refl sub) (.int _)⟩
  · cases ho
def c_bool : List Da → Option Da
  | [.int i] => some (.bool (i != 0))
  | [.bool b] => some (.bool b)
  | [.list xs] => some (.bool (!xs.isEmpty))
  | _ => none
theorem dc_bool : DC X (.type "bool") c_bool := by
  refine CallR.imp (CallR.or call_bool1 call_boolL) fun vs H Q ⟨F, ds, r, sub, hv, ho, k⟩ => ?_
  unfold c_bool at ho
  split at ho
  · cases ho
    rw [one_int hv]
    exact .inl (.inl ⟨_, rfl, k _ F H (Ext.refl sub) (.bl _)⟩)
  · cases ho
    cases hv with
    | cons h1 h2 => cases h2; cases h1; exact .inl (.inr ⟨_, rfl, k _ F H (Ext.refl sub) (.bl _)⟩)
  · cases ho
    cases hv with
    | cons h1 h2 =>
      cases h2
      cases h1 with
      | lst h1 hz h2 => exact .inr ⟨_, _, rfl, SqL.of (sub _ _ h1), by rw [isEmpty_len h2.len]; exact k _ F H (Ext.refl sub) (.bl _)⟩
  · cases ho
def c_tuple : List Da → Option Da
  | [.list xs] => some (.tuple xs)
  | [.tuple xs] => some (.tuple xs)
  | _ => none
theorem dc_tuple : DC X (.type "tuple") c_tuple := by
  refine CallR.imp call_tuple_of fun vs H Q ⟨F, ds, r, sub, hv, ho, k⟩ => ?_
  unfold c_tuple at ho
  split at ho
  · cases ho
    cases hv with
    | cons h1 h2 =>
      cases h2
      cases h1 with
      | lst h1 hz h2 => exact ⟨_, _, rfl, .inl ⟨SqL.of (sub _ _ h1), fun l hl => k _ _ _ (Ext.new sub hl) (.tup upd_same hz (h2.up (Ext.new sub hl).ff))⟩⟩
  · cases ho
    cases hv with
    | cons h1 h2 =>
      cases h2
      cases h1 with
      | tup h1 hz h2 => exact ⟨_, _, rfl, .inr ⟨SqT.of (sub _ _ h1), k _ F H (Ext.refl sub) (.tup h1 hz h2)⟩⟩
  · cases ho
end

/-! ### list(range(..)) -/
def tRgD (K : PySem.W.Frag) (f : DEnv → Option (Int × Int)) : St → Hp → (Int → Int → Hp → Prop) → Prop := fun σ H Q => ∃ ρ F a b, EnvR K ρ σ F H ∧ f ρ = some (a, b) ∧ ∀ F' H', Ext F H F' H' → Q a b H'
def rg1 (f : Ef) : DEnv → Option (Int × Int) := fun ρ => match f ρ with
  | some (.int n) => some (0, n)
  | _ => none
def rg2 (f g : Ef) : DEnv → Option (Int × Int) := fun ρ => match f ρ, g ρ with
  | some (.int n), some (.int m) => some (n, m)
  | _, _ => none
def l_listRg (f : DEnv → Option (Int × Int)) : Lf := fun ρ => match f ρ with
  | some (a, b) => if (-(2 ^ 61) ≤ a ∧ a < 2 ^ 61 ∧ -(2 ^ 61) ≤ b ∧ b < 2 ^ 61) ∧ b - a ≤ 1000000 then some (rangeD a (b - a).toNat) else none
  | none => none
section
variable {X : Cx} {a b : Expr} {f g : Ef} {p p2 pos : Pos}
theorem PRg.imp {e : Expr} {t t' : St → Hp → (Int → Int → Hp → Prop) → Prop} (h : PRg X e t) (k : ∀ σ H Q, t' σ H Q → t σ H Q) : PRg X e t' := fun pins s σ H Q I q => h pins s σ H Q I (k _ _ _ q)
theorem prgD1 (hm : X.mg "range" = none) (ha : DE X a f) (hg : Gl X "range" := by rfl) (na : starEach [a] X.env = (false, eval a X.env) :: starEach [] X.env := by rfl) : PRg X (.Call (.Name "range" p) [a] [] pos) (tRgD X.K (rg1 f)) := by
  refine PRg.imp (prg_1 hg hm ha na) fun σ H Q ⟨ρ, F, x, y, E, hf, q⟩ => ?_
  unfold rg1 at hf
  split at hf
  · rename_i n e
    cases hf
    exact ⟨ρ, F, _, E, e, fun v F1 H1 x1 hv => by cases hv; exact ⟨_, rfl, q F1 H1 x1⟩⟩
  · cases hf
theorem prgD2 (hm : X.mg "range" = none) (ha : DE X a f) (hb : DE X b g) (hg : Gl X "range" := by rfl) (na : starEach [a, b] X.env = (false, eval a X.env) :: starEach [b] X.env := by rfl)
    (nb : starEach [b] X.env = (false, eval b X.env) :: starEach [] X.env := by rfl) (hp : (backTo pos (starEach [b] X.env)).any (·.1) = false := by rfl) : PRg X (.Call (.Name "range" p) [a, b] [] pos) (tRgD X.K (rg2 f g)) := by
  refine PRg.imp (prg_2 hg hm ha hb na nb hp) fun σ H Q ⟨ρ, F, x, y, E, hf, q⟩ => ?_
  unfold rg2 at hf
  split at hf
  · rename_i n m e1 e2
    cases hf
    exact ⟨ρ, F, _, E, e1, fun v F1 H1 x1 hv => ⟨ρ, F1, _, E.ext x1, e2, fun w F2 H2 x2 hw => by cases hv; cases hw; exact ⟨_, _, rfl, rfl, q F2 H2 (x1.trans x2)⟩⟩⟩
  · cases hf
theorem dn_listRg {e : Expr} {fr : DEnv → Option (Int × Int)} (he : PRg X e (tRgD X.K fr)) (hm : X.mg "list" = none) (hc : X.calm = true := by rfl) (hg : Gl X "list" := by rfl) (na : starEach [e] X.env = (false, eval e X.env) :: starEach [] X.env := by rfl) : DN X (.Call (.Name "list" p) [e] [] pos) (l_listRg fr) := by
  refine PE.imp (pe_listRg hc hg hm he na) fun σ H Q ⟨ρ, F, ds, E, hf, q⟩ => ?_
  unfold l_listRg at hf
  split at hf
  · rename_i x y e
    split at hf
    · rename_i hr
      cases hf
      refine ⟨ρ, F, x, y, E, e, fun F1 H1 x1 => ⟨⟨by omega, by omega, by omega, by omega, by omega⟩, fun p hp => ?_⟩⟩
      have hn : H p = none := x1.hh.none hp
      refine q p (rgV x y) F1 _ (x1.trans (Ext.out x1.fh hp)) (x1.fh.free hp) hn upd_same (by rw [rgV_length, sizeLine_eq]; omega) ?_
      unfold rgV rangeD
      have key : ∀ l : List Nat, DvAll X.K F1 (l.map fun i => V.int (x + (i : Nat))) (l.map fun i => PyData.int (x + (i : Nat))) := fun l => by
        induction l with
        | nil => exact .nil
        | cons i l ih => exact .cons (.int _) ih
      exact key _
    · cases hf
  · cases hf
end

/-! ### new lists by drawn arguments -/
def xl_call (o : List Da → Option (List Da)) (l : Xf (List Da)) : Xf (List Da) := bindX l fun ds => retX (o ds)
section
variable {X : Cx} {W : WX} {e : Expr} {es : List Expr} {o : List Da → Option (List Da)} {l : Xf (List Da)} {x : Str} {p pos : Pos}
theorem xcalln_read {c : En} {σ : St} {H : Hp} {Q : VK} (h : tXN c (xl_call o l) σ H Q) : tCB (rCN c.K o) (tXA c l) σ H Q := by
  obtain ⟨own, ρ, F, r, E, hf, q⟩ := h
  unfold xl_call bindX at hf
  split at hf
  · rename_i ds ρ' e
    obtain ⟨d, ho, rfl⟩ := Option.map_eq_some_iff.mp hf
    refine ⟨own, ρ, F, _, E, e, fun F1 H1 x1 E1 vs hvs => ⟨F1, ds, d, E1.sub, hvs, ho, fun p xs hp hz hw => ?_⟩⟩
    have y := Ext.out (o := .lst xs) E1.sub hp
    exact q F1 _ (x1.trans (.of y)) (E1.ext y) p xs (E1.sub.free hp) (x1.non hp) upd_same hz hw
  · rename_i k d ρ' e
    cases hf
    exact ⟨own, ρ, F, _, E, e, q⟩
  · cases hf
theorem dxn_callB {id : String} (hc : DCN X (.builtin id) o) (hm : X.mg x = none) (hv : bootBuiltins x = some (.builtin id)) (ha : DXA X W (e :: es) l) (hg : Gl X x := by rfl) (hn : x ≠ "__name__" := by decide) (hdb : (x == ("__debug__" : Str)) = false := by decide)
    (he : starEach (e :: es) X.env = (false, eval e X.env) :: starEach es X.env := by rfl) (hpl : (backTo pos (starEach es X.env)).any (·.1) = false := by rfl) : DXN X W (.Call (.Name x p) (e :: es) [] pos) (xl_call o l) := fun G F0 H0 =>
  PE.imp (pe_callB hc hg hm hv (ha G F0 H0) hn hdb he hpl) fun _ _ _ h => xcalln_read (c := enOf X W G F0 H0) h
theorem dxn_callT {T : String} (hc : DCN X (.type T) o) (hm : X.mg x = none) (hv : bootBuiltins x = some (.type T)) (ha : DXA X W (e :: es) l) (hg : Gl X x := by rfl) (hn : x ≠ "__name__" := by decide) (hdb : (x == ("__debug__" : Str)) = false := by decide)
    (he : starEach (e :: es) X.env = (false, eval e X.env) :: starEach es X.env := by rfl) (hpl : (backTo pos (starEach es X.env)).any (·.1) = false := by rfl) : DXN X W (.Call (.Name x p) (e :: es) [] pos) (xl_call o l) := fun G F0 H0 =>
  PE.imp (pe_callTy hc hg hm hv (ha G F0 H0) hn hdb he hpl) fun _ _ _ h => xcalln_read (c := enOf X W G F0 H0) h
end
end DD
end

section
set_option Elab.async false
set_option linter.all false
set_option maxRecDepth 100000
set_option maxHeartbeats 2000000
/-! The data layer: the law's end. -/
namespace DD
open PySem PySem.Spec PyProof.Rows L2

/-- the law's promise: a script that its function of data answers True at -/
def spLaw (K : PySem.W.Frag) (o : List Da → Option Rp) : Sp := fun vs H Q _ => ∃ a ns, vs = [.ref a] ∧ Only H ∧ SqL K H a (ns.map V.int) ∧ o [scD ns] = some (.ok (.bool true)) ∧ ∀ H', Q (.bl true) H'
theorem law_end {P : Program} {w : World} {K : PySem.W.Frag} {mg : Str → Option Value} {base : Heap} {k : Nat} {f : Addr} {fd : FuncData} {o : List Da → Option Rp} {x : Str} (C : FnOk P w K mg base (L2.CX P w) k f fd [x] (spX K mg 1 o)) : FnOk P w K mg base CX0 k f fd [x] (spLaw K o) := by
  refine ⟨fun vs H Q E ⟨a, ns, e, _⟩ => by rw [e]; rfl, fun A outer s H args us vs Q E hr he hb hv hs => ?_⟩
  obtain ⟨a, ns, rfl, hO, hS, ho, hQ⟩ := hs
  have nt : Nt H := fun b ps z => by
    rcases hO b with q | ⟨_, _, q⟩ <;> (rw [q] at z; cases z)
  refine codeAny_mono (C.run A outer s H args us [.ref a] Q (fun _ _ _ => False) hr he hb hv ⟨rfl, H, [scD ns], _, Same.refl _, nt, .cons (.scr hS) .nil, ho, fun F' H' x v hv => ?_⟩) fun r s' hq => ?_
  · cases hv
    exact hQ H'
  · cases r with
    | ok fl => cases fl <;> exact hq
    | error e =>
      obtain ⟨_, _, _, _, _, _, _, _, _, _, _, _, z⟩ := hq
      exact z.elim
end DD
end

section
set_option Elab.async false
set_option linter.all false
set_option maxRecDepth 100000
set_option maxHeartbeats 4000000
namespace K09
open PySem PySem.Spec PyProof.Rows L2 DD
def l_bindN (o : List Da → Option (List Da)) (l : Lf) : Lf := fun ρ => (l ρ).bind o
def sf_is_whole : Sf := s_ret (e_and (e_isi "int" (e_var 0)) (e_not (e_isi "bool" (e_var 0))))
def o_is_whole : List Da → Option Da := defD 1 1 sf_is_whole
def sf_is_many : Sf := s_ret (e_and (e_call o_is_whole (l_cons (e_var 0) (l_nil))) (e_chain (o_ord fun d e => !PySem.W.dataLt e d) (o_ord fun d e => !PySem.W.dataLt e d) (e_c (.int 1)) (e_var 0) (e_c (.int 7))))
def o_is_many : List Da → Option Da := defD 1 1 sf_is_many
def sf_check_many : Sf := s_if (t_not (t_val (e_call o_is_many (l_cons (e_var 0) (l_nil))))) (s_bad) (s_nil)
def o_check_many : List Da → Option Da := defD 1 1 sf_check_many
def sf_is_lot_by : Sf := s_seq (s_if (t_or (t_not (t_val (e_isi "list" (e_var 1)))) (t_not (t_val (e_call c_all (l_cons (e_new (l_lc (l_items (e_var 1)) (.one 3) (fun _ => some true) (e_and (e_call o_is_whole (l_cons (e_var 3) (l_nil))) (e_chain (o_ord fun d e => !PySem.W.dataLt e d) (o_ord PySem.W.dataLt) (e_c (.int 0)) (e_var 3) (e_var 0))) [3])) (l_nil)))))) (s_ret (e_c (.bool false))) (s_nil)) (s_ret (e_call c_all (l_cons (e_new (l_lc (l_range2 (l_cons (e_c (.int 1)) (l_cons (e_call c_len (l_cons (e_var 1) (l_nil))) (l_nil)))) (.one 2) (fun _ => some true) (e_bin (o_ord PySem.W.dataLt) (e_bin o_ix (e_var 1) (e_bin (o_int p_sub) (e_var 2) (e_c (.int 1)))) (e_bin o_ix (e_var 1) (e_var 2))) [2])) (l_nil))))
def o_is_lot_by : List Da → Option Da := defD 2 4 sf_is_lot_by
def sf_lots_of : Sf := s_seq (s_asg 1 (e_lst (l_cons (e_lst (l_nil)) (l_nil)))) (s_seq (s_for (l_range1 (l_cons (e_var 0) (l_nil))) (.one 2) (s_asg 1 (e_bin o_add (e_var 1) (e_new (l_lc (l_items (e_var 1)) (.one 4) (fun _ => some true) (e_bin o_add (e_var 4) (e_lst (l_cons (e_var 2) (l_nil)))) [4]))))) (s_ret (e_new (l_lc (l_items (e_new (l_call cl_sorted (l_cons (e_new (l_lc (l_items (e_var 1)) (.one 4) (fun _ => some true) (e_tup (l_cons (e_call c_len (l_cons (e_var 4) (l_nil))) (l_cons (e_var 4) (l_nil)))) [4])) (l_nil))))) (.tup [3, 4]) (fun _ => some true) (e_var 4) [3, 4]))))
def o_lots_of : List Da → Option Da := defD 1 5 sf_lots_of
def sf_is_within : Sf := s_ret (e_call c_all (l_cons (e_new (l_lc (l_items (e_var 0)) (.one 2) (fun _ => some true) (e_bin o_in (e_var 2) (e_var 1)) [2])) (l_nil)))
def o_is_within : List Da → Option Da := defD 2 3 sf_is_within
def sf_is_complex_by : Sf := s_seq (s_if (t_or (t_not (t_val (e_isi "tuple" (e_var 0)))) (t_or (t_bool (e_bin o_ne (e_call c_len (l_cons (e_var 0) (l_nil))) (e_c (.int 3)))) (t_or (t_not (t_val (e_isi "str" (e_bin o_ix (e_var 0) (e_c (.int 0)))))) (t_bool (e_bin o_ne (e_bin o_ix (e_var 0) (e_c (.int 0))) (e_c (.str "complex"))))))) (s_ret (e_c (.bool false))) (s_nil)) (s_seq (s_if (t_or (t_not (t_val (e_call o_is_many (l_cons (e_bin o_ix (e_var 0) (e_c (.int 1))) (l_nil))))) (t_or (t_not (t_val (e_isi "list" (e_bin o_ix (e_var 0) (e_c (.int 2)))))) (t_bool (e_bin (o_ord fun d e => PySem.W.dataLt e d) (e_call c_len (l_cons (e_bin o_ix (e_var 0) (e_c (.int 2))) (l_nil))) (e_c (.int 20)))))) (s_ret (e_c (.bool false))) (s_nil)) (s_seq (s_asg 1 (e_bin o_ix (e_var 0) (e_c (.int 2)))) (s_seq (s_if (t_not (t_val (e_call c_all (l_cons (e_new (l_lc (l_items (e_var 1)) (.one 3) (fun _ => some true) (e_and (e_call o_is_lot_by (l_cons (e_bin o_ix (e_var 0) (e_c (.int 1))) (l_cons (e_var 3) (l_nil)))) (e_bin o_ne (e_var 3) (e_lst (l_nil)))) [3])) (l_nil))))) (s_ret (e_c (.bool false))) (s_nil)) (s_seq (s_if (t_not (t_val (e_call c_all (l_cons (e_new (l_lc (l_range2 (l_cons (e_c (.int 1)) (l_cons (e_call c_len (l_cons (e_var 1) (l_nil))) (l_nil)))) (.one 2) (fun _ => some true) (e_bin (o_ord PySem.W.dataLt) (e_bin o_ix (e_var 1) (e_bin (o_int p_sub) (e_var 2) (e_c (.int 1)))) (e_bin o_ix (e_var 1) (e_var 2))) [2])) (l_nil))))) (s_ret (e_c (.bool false))) (s_nil)) (s_seq (s_for (l_enum (l_cons (e_var 1) (l_nil))) (.tup [2, 3]) (s_if (t_val (e_call c_any (l_cons (e_new (l_lc (l_items (e_bin o_add (e_cut (e_var 1) p_no (p_at (e_var 2))) (e_cut (e_var 1) (p_at (e_bin o_add (e_var 2) (e_c (.int 1)))) p_no))) (.one 4) (fun _ => some true) (e_call o_is_within (l_cons (e_var 3) (l_cons (e_var 4) (l_nil)))) [4])) (l_nil)))) (s_ret (e_c (.bool false))) (s_nil))) (s_ret (e_c (.bool true))))))))
def o_is_complex_by : List Da → Option Da := defD 1 5 sf_is_complex_by
def sf_check_complex : Sf := s_if (t_not (t_val (e_call o_is_complex_by (l_cons (e_var 0) (l_nil))))) (s_bad) (s_nil)
def o_check_complex : List Da → Option Da := defD 1 1 sf_check_complex
def sf_many_in : Sf := s_ret (e_bin o_ix (e_var 0) (e_c (.int 1)))
def o_many_in : List Da → Option Da := defD 1 1 sf_many_in
def sf_tops_in : Sf := s_ret (e_new (l_lc (l_items (e_bin o_ix (e_var 0) (e_c (.int 2)))) (.one 1) (fun _ => some true) (e_new (l_call cl_list (l_cons (e_var 1) (l_nil)))) [1]))
def o_tops_in : List Da → Option Da := defD 1 2 sf_tops_in
def sf_has_face : Sf := s_ret (e_and (e_bin o_ne (e_var 1) (e_lst (l_nil))) (e_call c_any (l_cons (e_new (l_lc (l_items (e_bin o_ix (e_var 0) (e_c (.int 2)))) (.one 2) (fun _ => some true) (e_call o_is_within (l_cons (e_var 1) (l_cons (e_var 2) (l_nil)))) [2])) (l_nil))))
def o_has_face : List Da → Option Da := defD 2 3 sf_has_face
def sf_faces_by : Sf := s_ret (e_new (l_lc (l_items (e_call o_lots_of (l_cons (e_bin o_ix (e_var 0) (e_c (.int 1))) (l_nil)))) (.one 1) (t_val (e_call o_has_face (l_cons (e_var 0) (l_cons (e_var 1) (l_nil))))) (e_var 1) [1]))
def o_faces_by : List Da → Option Da := defD 1 2 sf_faces_by
def sf_faces_at : Sf := s_ret (e_new (l_lc (l_items (e_call o_faces_by (l_cons (e_var 0) (l_nil)))) (.one 2) (t_bool (e_bin o_eq (e_call c_len (l_cons (e_var 2) (l_nil))) (e_bin o_add (e_var 1) (e_c (.int 1))))) (e_var 2) [2]))
def o_faces_at : List Da → Option Da := defD 2 3 sf_faces_at
def sf_dimension_of : Sf := s_ret (e_bin (o_int p_sub) (e_call c_max1 (l_cons (e_bin o_add (e_new (l_lc (l_items (e_bin o_ix (e_var 0) (e_c (.int 2)))) (.one 1) (fun _ => some true) (e_call c_len (l_cons (e_var 1) (l_nil))) [1])) (e_lst (l_cons (e_c (.int 0)) (l_nil)))) (l_nil))) (e_c (.int 1)))
def o_dimension_of : List Da → Option Da := defD 1 2 sf_dimension_of
def sf_complex_of : Sf := s_seq (s_own 2 (l_lst (l_nil))) (s_seq (s_for (l_items (e_var 1)) (.one 3) (s_if (t_and (t_bool (e_bin o_ne (e_var 3) (e_lst (l_nil)))) (t_and (t_sc (t_bool (e_bin o_notin (e_var 3) (e_var 2)))) (t_not (t_val (e_call c_any (l_cons (e_new (l_lc (l_items (e_var 1)) (.one 4) (fun _ => some true) (e_and (e_bin o_ne (e_var 3) (e_var 4)) (e_call o_is_within (l_cons (e_var 3) (l_cons (e_var 4) (l_nil))))) [4])) (l_nil))))))) (s_app 2 (e_new (l_call cl_list (l_cons (e_var 3) (l_nil))))) (s_nil))) (s_ret (e_tup (l_cons (e_c (.str "complex")) (l_cons (e_var 0) (l_cons (e_new (l_sortedo 2)) (l_nil)))))))
def o_complex_of : List Da → Option Da := defD 2 5 sf_complex_of
def sf_is_face_by : Sf := s_ret (e_and (e_call o_is_lot_by (l_cons (e_bin o_ix (e_var 0) (e_c (.int 1))) (l_cons (e_var 1) (l_nil)))) (e_call o_has_face (l_cons (e_var 0) (l_cons (e_var 1) (l_nil)))))
def o_is_face_by : List Da → Option Da := defD 2 2 sf_is_face_by
def sf_check_face : Sf := s_if (t_not (t_val (e_call o_is_face_by (l_cons (e_var 0) (l_cons (e_var 1) (l_nil)))))) (s_bad) (s_nil)
def o_check_face : List Da → Option Da := defD 2 2 sf_check_face
def sf_check_dimension : Sf := s_if (t_or (t_not (t_val (e_call o_is_whole (l_cons (e_var 0) (l_nil))))) (t_not (t_bool (e_chain (o_ord fun d e => !PySem.W.dataLt e d) (o_ord PySem.W.dataLt) (e_c (.int 0)) (e_var 0) (e_c (.int 7)))))) (s_bad) (s_nil)
def o_check_dimension : List Da → Option Da := defD 1 1 sf_check_dimension
def sf_is_complex : Sf := s_ret (e_call o_is_complex_by (l_cons (e_var 0) (l_nil)))
def o_is_complex : List Da → Option Da := defD 1 1 sf_is_complex
def sf_check_lots : Sf := s_if (t_or (t_not (t_val (e_isi "list" (e_var 1)))) (t_not (t_val (e_call c_all (l_cons (e_new (l_lc (l_items (e_var 1)) (.one 2) (fun _ => some true) (e_call o_is_lot_by (l_cons (e_var 0) (l_cons (e_var 2) (l_nil)))) [2])) (l_nil)))))) (s_bad) (s_nil)
def o_check_lots : List Da → Option Da := defD 2 3 sf_check_lots
def sf_checked : Sf := s_seq (s_if (t_bool (e_bin (o_ord fun d e => PySem.W.dataLt e d) (e_call c_len (l_cons (e_bin o_ix (e_var 0) (e_c (.int 2))) (l_nil))) (e_c (.int 20)))) (s_bad) (s_nil)) (s_ret (e_var 0))
def o_checked : List Da → Option Da := defD 1 1 sf_checked
def sf_complex_with : Sf := s_seq (s_drop (e_call o_check_many (l_cons (e_var 0) (l_nil)))) (s_seq (s_drop (e_call o_check_lots (l_cons (e_var 0) (l_cons (e_var 1) (l_nil))))) (s_ret (e_call o_checked (l_cons (e_call o_complex_of (l_cons (e_var 0) (l_cons (e_var 1) (l_nil)))) (l_nil)))))
def o_complex_with : List Da → Option Da := defD 2 2 sf_complex_with
def sf_all_faces : Sf := s_seq (s_drop (e_call o_check_complex (l_cons (e_var 0) (l_nil)))) (s_ret (e_call o_faces_by (l_cons (e_var 0) (l_nil))))
def o_all_faces : List Da → Option Da := defD 1 1 sf_all_faces
def sf_is_face : Sf := s_seq (s_drop (e_call o_check_complex (l_cons (e_var 0) (l_nil)))) (s_ret (e_call o_is_face_by (l_cons (e_var 0) (l_cons (e_var 1) (l_nil)))))
def o_is_face : List Da → Option Da := defD 2 2 sf_is_face
def sf_counts_by : Sf := s_ret (e_new (l_lc (l_range1 (l_cons (e_bin o_add (e_call o_dimension_of (l_cons (e_var 0) (l_nil))) (e_c (.int 1))) (l_nil))) (.one 1) (fun _ => some true) (e_call c_len (l_cons (e_call o_faces_at (l_cons (e_var 0) (l_cons (e_var 1) (l_nil)))) (l_nil))) [1]))
def o_counts_by : List Da → Option Da := defD 1 2 sf_counts_by
def sf_face_counts : Sf := s_seq (s_drop (e_call o_check_complex (l_cons (e_var 0) (l_nil)))) (s_ret (e_call o_counts_by (l_cons (e_var 0) (l_nil))))
def o_face_counts : List Da → Option Da := defD 1 1 sf_face_counts
def sf_euler_by : Sf := s_ret (e_call c_sum (l_cons (e_new (l_lc (l_enum (l_cons (e_call o_counts_by (l_cons (e_var 0) (l_nil))) (l_nil))) (.tup [1, 2]) (fun _ => some true) (e_if (t_bool (e_bin o_in (e_var 1) (e_tup (l_cons (e_c (.int 0)) (l_cons (e_c (.int 2)) (l_cons (e_c (.int 4)) (l_cons (e_c (.int 6)) (l_nil)))))))) (e_var 2) (e_bin (o_int p_sub) (e_c (.int 0)) (e_var 2))) [1, 2])) (l_nil)))
def o_euler_by : List Da → Option Da := defD 1 3 sf_euler_by
def sf_euler_number : Sf := s_seq (s_drop (e_call o_check_complex (l_cons (e_var 0) (l_nil)))) (s_ret (e_call o_euler_by (l_cons (e_var 0) (l_nil))))
def o_euler_number : List Da → Option Da := defD 1 1 sf_euler_number
def sf_skeleton : Sf := s_seq (s_drop (e_call o_check_complex (l_cons (e_var 0) (l_nil)))) (s_seq (s_drop (e_call o_check_dimension (l_cons (e_var 1) (l_nil)))) (s_ret (e_call o_checked (l_cons (e_call o_complex_of (l_cons (e_call o_many_in (l_cons (e_var 0) (l_nil))) (l_cons (e_new (l_lc (l_items (e_call o_faces_by (l_cons (e_var 0) (l_nil)))) (.one 2) (t_bool (e_bin (o_ord fun d e => !PySem.W.dataLt e d) (e_call c_len (l_cons (e_var 2) (l_nil))) (e_bin o_add (e_var 1) (e_c (.int 1))))) (e_var 2) [2])) (l_nil)))) (l_nil)))))
def o_skeleton : List Da → Option Da := defD 2 3 sf_skeleton
def sf_is_even_topped : Sf := s_seq (s_drop (e_call o_check_complex (l_cons (e_var 0) (l_nil)))) (s_ret (e_call c_all (l_cons (e_new (l_lc (l_items (e_bin o_ix (e_var 0) (e_c (.int 2)))) (.one 1) (fun _ => some true) (e_bin o_eq (e_call c_len (l_cons (e_var 1) (l_nil))) (e_call c_len (l_cons (e_bin o_ix (e_bin o_ix (e_var 0) (e_c (.int 2))) (e_c (.int 0))) (l_nil)))) [1])) (l_nil))))
def o_is_even_topped : List Da → Option Da := defD 1 2 sf_is_even_topped
def sf_rest_of : Sf := s_ret (e_new (l_lc (l_items (e_var 0)) (.one 2) (t_bool (e_bin o_notin (e_var 2) (e_var 1))) (e_var 2) [2]))
def o_rest_of : List Da → Option Da := defD 2 3 sf_rest_of
def sf_link : Sf := s_seq (s_drop (e_call o_check_complex (l_cons (e_var 0) (l_nil)))) (s_seq (s_drop (e_call o_check_face (l_cons (e_var 0) (l_cons (e_var 1) (l_nil))))) (s_ret (e_call o_complex_of (l_cons (e_call o_many_in (l_cons (e_var 0) (l_nil))) (l_cons (e_new (l_lc (l_items (e_bin o_ix (e_var 0) (e_c (.int 2)))) (.one 2) (t_val (e_call o_is_within (l_cons (e_var 1) (l_cons (e_var 2) (l_nil))))) (e_call o_rest_of (l_cons (e_var 2) (l_cons (e_var 1) (l_nil)))) [2])) (l_nil))))))
def o_link : List Da → Option Da := defD 2 3 sf_link
def sf_star : Sf := s_seq (s_drop (e_call o_check_complex (l_cons (e_var 0) (l_nil)))) (s_seq (s_drop (e_call o_check_face (l_cons (e_var 0) (l_cons (e_var 1) (l_nil))))) (s_ret (e_call o_complex_of (l_cons (e_call o_many_in (l_cons (e_var 0) (l_nil))) (l_cons (e_new (l_lc (l_items (e_bin o_ix (e_var 0) (e_c (.int 2)))) (.one 2) (t_val (e_call o_is_within (l_cons (e_var 1) (l_cons (e_var 2) (l_nil))))) (e_var 2) [2])) (l_nil))))))
def o_star : List Da → Option Da := defD 2 3 sf_star
def sf_without : Sf := s_seq (s_drop (e_call o_check_complex (l_cons (e_var 0) (l_nil)))) (s_seq (s_drop (e_call o_check_face (l_cons (e_var 0) (l_cons (e_var 1) (l_nil))))) (s_ret (e_call o_checked (l_cons (e_call o_complex_of (l_cons (e_call o_many_in (l_cons (e_var 0) (l_nil))) (l_cons (e_new (l_lc (l_items (e_call o_faces_by (l_cons (e_var 0) (l_nil)))) (.one 2) (t_not (t_val (e_call o_is_within (l_cons (e_var 1) (l_cons (e_var 2) (l_nil)))))) (e_var 2) [2])) (l_nil)))) (l_nil)))))
def o_without : List Da → Option Da := defD 2 3 sf_without
def sf_shifted : Sf := s_ret (e_new (l_lc (l_items (e_var 0)) (.one 2) (fun _ => some true) (e_bin o_add (e_var 2) (e_var 1)) [2]))
def o_shifted : List Da → Option Da := defD 2 3 sf_shifted
def sf_check_room : Sf := s_if (t_bool (e_bin (o_ord fun d e => PySem.W.dataLt e d) (e_var 0) (e_c (.int 7)))) (s_bad) (s_nil)
def o_check_room : List Da → Option Da := defD 1 1 sf_check_room
def sf_joined_by : Sf := s_seq (s_par_ii 3 4 (e_lst (l_nil)) (e_bin o_add (e_call o_many_in (l_cons (e_var 0) (l_nil))) (e_var 1))) (s_seq (s_for (l_items (e_bin o_add (e_bin o_ix (e_var 0) (e_c (.int 2))) (e_bin o_mult (e_lst (l_cons (e_lst (l_nil)) (l_nil))) (e_call c_int (l_cons (e_bin o_eq (e_bin o_ix (e_var 0) (e_c (.int 2))) (e_lst (l_nil))) (l_nil)))))) (.one 5) (s_asg 3 (e_bin o_add (e_var 3) (e_new (l_lc (l_items (e_bin o_add (e_var 2) (e_bin o_mult (e_lst (l_cons (e_lst (l_nil)) (l_nil))) (e_call c_int (l_cons (e_bin o_eq (e_var 2) (e_lst (l_nil))) (l_nil)))))) (.one 6) (fun _ => some true) (e_bin o_add (e_var 5) (e_call o_shifted (l_cons (e_var 6) (l_cons (e_call o_many_in (l_cons (e_var 0) (l_nil))) (l_nil))))) [6]))))) (s_ret (e_call o_checked (l_cons (e_call o_complex_of (l_cons (e_var 4) (l_cons (e_var 3) (l_nil)))) (l_nil)))))
def o_joined_by : List Da → Option Da := defD 3 7 sf_joined_by
def sf_join : Sf := s_seq (s_drop (e_call o_check_complex (l_cons (e_var 0) (l_nil)))) (s_seq (s_drop (e_call o_check_complex (l_cons (e_var 1) (l_nil)))) (s_seq (s_drop (e_call o_check_room (l_cons (e_bin o_add (e_call o_many_in (l_cons (e_var 0) (l_nil))) (e_call o_many_in (l_cons (e_var 1) (l_nil)))) (l_nil)))) (s_ret (e_call o_joined_by (l_cons (e_var 0) (l_cons (e_call o_many_in (l_cons (e_var 1) (l_nil))) (l_cons (e_call o_tops_in (l_cons (e_var 1) (l_nil))) (l_nil))))))))
def o_join : List Da → Option Da := defD 2 2 sf_join
def sf_cone : Sf := s_seq (s_drop (e_call o_check_complex (l_cons (e_var 0) (l_nil)))) (s_seq (s_drop (e_call o_check_room (l_cons (e_bin o_add (e_call o_many_in (l_cons (e_var 0) (l_nil))) (e_c (.int 1))) (l_nil)))) (s_ret (e_call o_joined_by (l_cons (e_var 0) (l_cons (e_c (.int 1)) (l_cons (e_lst (l_cons (e_lst (l_cons (e_c (.int 0)) (l_nil))) (l_nil))) (l_nil)))))))
def o_cone : List Da → Option Da := defD 1 1 sf_cone
def sf_hung : Sf := s_seq (s_drop (e_call o_check_complex (l_cons (e_var 0) (l_nil)))) (s_seq (s_drop (e_call o_check_room (l_cons (e_bin o_add (e_call o_many_in (l_cons (e_var 0) (l_nil))) (e_c (.int 2))) (l_nil)))) (s_ret (e_call o_joined_by (l_cons (e_var 0) (l_cons (e_c (.int 2)) (l_cons (e_lst (l_cons (e_lst (l_cons (e_c (.int 0)) (l_nil))) (l_cons (e_lst (l_cons (e_c (.int 1)) (l_nil))) (l_nil)))) (l_nil)))))))
def o_hung : List Da → Option Da := defD 1 1 sf_hung
def sf_check_alike : Sf := s_seq (s_drop (e_call o_check_complex (l_cons (e_var 0) (l_nil)))) (s_seq (s_drop (e_call o_check_complex (l_cons (e_var 1) (l_nil)))) (s_if (t_bool (e_bin o_ne (e_call o_many_in (l_cons (e_var 0) (l_nil))) (e_call o_many_in (l_cons (e_var 1) (l_nil))))) (s_bad) (s_nil)))
def o_check_alike : List Da → Option Da := defD 2 2 sf_check_alike
def sf_union : Sf := s_seq (s_drop (e_call o_check_alike (l_cons (e_var 0) (l_cons (e_var 1) (l_nil))))) (s_ret (e_call o_checked (l_cons (e_call o_complex_of (l_cons (e_call o_many_in (l_cons (e_var 0) (l_nil))) (l_cons (e_bin o_add (e_call o_tops_in (l_cons (e_var 0) (l_nil))) (e_call o_tops_in (l_cons (e_var 1) (l_nil)))) (l_nil)))) (l_nil))))
def o_union : List Da → Option Da := defD 2 2 sf_union
def sf_meet : Sf := s_seq (s_drop (e_call o_check_alike (l_cons (e_var 0) (l_cons (e_var 1) (l_nil))))) (s_ret (e_call o_checked (l_cons (e_call o_complex_of (l_cons (e_call o_many_in (l_cons (e_var 0) (l_nil))) (l_cons (e_new (l_lc (l_items (e_call o_faces_by (l_cons (e_var 0) (l_nil)))) (.one 2) (t_val (e_call o_has_face (l_cons (e_var 1) (l_cons (e_var 2) (l_nil))))) (e_var 2) [2])) (l_nil)))) (l_nil))))
def o_meet : List Da → Option Da := defD 2 3 sf_meet
def sf_least_missing : Sf := s_seq (s_drop (e_call o_check_complex (l_cons (e_var 0) (l_nil)))) (s_seq (s_own 1 (l_lst (l_nil))) (s_seq (s_for (l_items (e_call o_lots_of (l_cons (e_call o_many_in (l_cons (e_var 0) (l_nil))) (l_nil)))) (.one 2) (s_if (t_and (t_bool (e_bin o_ne (e_var 2) (e_lst (l_nil)))) (t_and (t_not (t_val (e_call o_has_face (l_cons (e_var 0) (l_cons (e_var 2) (l_nil)))))) (t_not (t_sc (t_val (e_call c_any (l_cons (e_new (l_lc (l_items (e_var 1)) (.one 3) (fun _ => some true) (e_call o_is_within (l_cons (e_var 3) (l_cons (e_var 2) (l_nil)))) [3])) (l_nil)))))))) (s_app 1 (e_var 2)) (s_nil))) (s_reto 1)))
def o_least_missing : List Da → Option Da := defD 1 4 sf_least_missing
def sf_complex_barring : Sf := s_seq (s_drop (e_call o_check_many (l_cons (e_var 0) (l_nil)))) (s_seq (s_drop (e_call o_check_lots (l_cons (e_var 0) (l_cons (e_var 1) (l_nil))))) (s_seq (s_if (t_bool (e_bin o_in (e_lst (l_nil)) (e_var 1))) (s_bad) (s_nil)) (s_seq (s_asg 2 (e_new (l_lc (l_items (e_call o_lots_of (l_cons (e_var 0) (l_nil)))) (.one 3) (t_not (t_val (e_call c_any (l_cons (e_new (l_lc (l_items (e_var 1)) (.one 4) (fun _ => some true) (e_call o_is_within (l_cons (e_var 4) (l_cons (e_var 3) (l_nil)))) [4])) (l_nil))))) (e_var 3) [3]))) (s_ret (e_call o_checked (l_cons (e_call o_complex_of (l_cons (e_var 0) (l_cons (e_var 2) (l_nil)))) (l_nil)))))))
def o_complex_barring : List Da → Option Da := defD 2 5 sf_complex_barring
def sf_is_flag : Sf := s_ret (e_call c_all (l_cons (e_new (l_lc (l_items (e_call o_least_missing (l_cons (e_var 0) (l_nil)))) (.one 1) (fun _ => some true) (e_bin (o_ord fun d e => !PySem.W.dataLt e d) (e_call c_len (l_cons (e_var 1) (l_nil))) (e_c (.int 2))) [1])) (l_nil)))
def o_is_flag : List Da → Option Da := defD 1 2 sf_is_flag
def sf_renamed : Sf := s_seq (s_drop (e_call o_check_complex (l_cons (e_var 0) (l_nil)))) (s_seq (s_if (t_or (t_not (t_val (e_isi "list" (e_var 1)))) (t_not (t_val (e_call c_all (l_cons (e_new (l_lc (l_items (e_var 1)) (.one 3) (fun _ => some true) (e_call o_is_whole (l_cons (e_var 3) (l_nil))) [3])) (l_nil)))))) (s_bad) (s_nil)) (s_seq (s_if (t_bool (e_bin o_ne (e_new (l_call cl_sorted (l_cons (e_var 1) (l_nil)))) (e_new (l_listRg (rg1 (e_call o_many_in (l_cons (e_var 0) (l_nil)))))))) (s_bad) (s_nil)) (s_ret (e_tup (l_cons (e_c (.str "complex")) (l_cons (e_call o_many_in (l_cons (e_var 0) (l_nil))) (l_cons (e_new (l_call cl_sorted (l_cons (e_new (l_lc (l_items (e_bin o_ix (e_var 0) (e_c (.int 2)))) (.one 2) (fun _ => some true) (e_new (l_call cl_sorted (l_cons (e_new (l_lc (l_items (e_var 2)) (.one 4) (fun _ => some true) (e_bin o_ix (e_var 1) (e_var 4)) [4])) (l_nil)))) [2])) (l_nil)))) (l_nil))))))))
def o_renamed : List Da → Option Da := defD 2 5 sf_renamed
def sf_ball : Sf := s_seq (s_drop (e_call o_check_many (l_cons (e_var 0) (l_nil)))) (s_ret (e_tup (l_cons (e_c (.str "complex")) (l_cons (e_var 0) (l_cons (e_lst (l_cons (e_new (l_listRg (rg1 (e_var 0)))) (l_nil))) (l_nil))))))
def o_ball : List Da → Option Da := defD 1 1 sf_ball
def sf_sphere : Sf := s_seq (s_drop (e_call o_check_many (l_cons (e_var 0) (l_nil)))) (s_ret (e_call o_complex_of (l_cons (e_var 0) (l_cons (e_new (l_lc (l_items (e_call o_lots_of (l_cons (e_var 0) (l_nil)))) (.one 1) (t_bool (e_bin o_eq (e_call c_len (l_cons (e_var 1) (l_nil))) (e_bin (o_int p_sub) (e_var 0) (e_c (.int 1))))) (e_var 1) [1])) (l_nil)))))
def o_sphere : List Da → Option Da := defD 1 2 sf_sphere
def sf__law_hash : Sf := s_seq (s_asg 2 (e_bin (o_int p_mod) (e_call c_int (l_cons (e_bin o_add (e_bin o_add (e_bin o_mult (e_var 0) (e_c (.int 48271))) (e_bin o_mult (e_var 1) (e_c (.int 69621)))) (e_c (.int 11))) (l_nil))) (e_c (.int 2147483647)))) (s_seq (s_asg 2 (e_bin (o_int p_mod) (e_call c_int (l_cons (e_bin o_add (e_bin o_add (e_bin o_mult (e_var 2) (e_var 2)) (e_bin o_mult (e_c (.int 62089)) (e_var 1))) (e_c (.int 131))) (l_nil))) (e_c (.int 2147483629)))) (s_ret (e_bin (o_int p_mod) (e_call c_int (l_cons (e_bin o_mult (e_var 2) (e_bin o_add (e_var 2) (e_c (.int 40692)))) (l_nil))) (e_c (.int 2147483587)))))
def o__law_hash : List Da → Option Da := defD 2 3 sf__law_hash
def sf__law_random : Sx := sx_seq (sx_if (x_of (t_sc (t_bool (e_bin (o_ord fun d e => PySem.W.dataLt e d) (e_bin o_ix (e_var 0) (e_c (.int 0))) (e_c (.int 0)))))) (sx_seq (sx_of (s_asg 2 (e_sc (e_bin (o_int p_mod) (e_call c_int (l_cons (e_bin o_ix (e_var 0) (e_c (.int 0))) (l_nil))) (e_var 1))))) (sx_seq (sx_put 0 0 (x_of (e_sc (e_bin (o_int p_fdiv) (e_bin o_ix (e_var 0) (e_c (.int 0))) (e_var 1))))) (sx_of (s_ret (e_var 2))))) (sx_nil)) (sx_seq (sx_of (s_asg 2 (e_c (.int 0)))) (sx_seq (sx_for (x_of (l_range1 (l_cons (e_bin o_add (e_c (.int 1)) (e_bin (o_int p_fdiv) (e_bits (e_var 1)) (e_c (.int 30)))) (l_nil)))) (.one 3) (sx_seq (sx_put 0 2 (x_of (e_sc (e_bin o_add (e_bin o_ix (e_var 0) (e_c (.int 2))) (e_c (.int 1)))))) (sx_of (s_asg 2 (e_sc (e_bin o_add (e_bin o_mult (e_var 2) (e_c (.int 2147483587))) (e_call o__law_hash (l_cons (e_bin o_ix (e_var 0) (e_c (.int 1))) (l_cons (e_bin o_ix (e_var 0) (e_c (.int 2))) (l_nil)))))))))) (sx_of (s_ret (e_bin (o_int p_mod) (e_call c_int (l_cons (e_var 2) (l_nil))) (e_var 1))))))
def o__law_random : List Da → List Da → Option (Rp × List Da) := defG 1 4 sf__law_random
def sf__law_cell : Sf := s_seq (s_if (t_bool (e_bin (o_ord PySem.W.dataLt) (e_var 1) (e_call c_len (l_cons (e_var 0) (l_nil))))) (s_ret (e_bin o_ix (e_var 0) (e_var 1))) (s_nil)) (s_ret (e_bin (o_int p_mod) (e_call c_sum (l_cons (e_cut (e_var 0) p_no (p_at (e_c (.int 1)))) (l_nil))) (e_c (.int 1000003))))
def o__law_cell : List Da → Option Da := defD 2 2 sf__law_cell
def sf__law_generator : Nf := n_seq (s_asg 2 (e_call o__law_cell (l_cons (e_var 0) (l_cons (e_var 1) (l_nil))))) (l_lst (l_cons (e_bin (o_int p_mod) (e_call c_int (l_cons (e_call c_max2 (l_cons (e_bin (o_int p_sub) (e_var 2) (e_bin (o_int p_pow) (e_c (.int 10)) (e_c (.int 18)))) (l_cons (e_c (.int 0)) (l_nil)))) (l_nil))) (e_bin (o_int p_pow) (e_bin (o_int p_pow) (e_c (.int 10)) (e_c (.int 60))) (e_c (.int 10)))) (l_cons (e_bin (o_int p_mod) (e_call c_int (l_cons (e_var 2) (l_nil))) (e_c (.int 2147483647))) (l_cons (e_bin o_mult (e_c (.int 1000)) (e_var 1)) (l_nil)))))
def o__law_generator : List Da → Option (List Da) := defN 2 3 sf__law_generator
def sf__law_pick : Sx := sx_ret (x_bin o_ix (x_of (e_var 1)) (x_callG 0 1 o__law_random (x_of (l_cons (e_call c_len (l_cons (e_var 1) (l_nil))) (l_nil)))))
def o__law_pick : List Da → List Da → Option (Rp × List Da) := defG 1 2 sf__law_pick
def sf__law_order : Sx := sx_seq (sx_par [2, 3] (xp_ow (x_of (l_call cl_list (l_cons (e_var 1) (l_nil)))) (xp_ow (x_of (l_lst (l_nil))) (xp_nil)))) (sx_seq (sx_for (x_of (l_range1 (l_cons (e_call c_len (l_cons (e_var 1) (l_nil))) (l_nil)))) (.one 4) (sx_app 3 (x_pop 2 (x_callG 0 1 o__law_random (x_of (l_cons (e_sc (e_call c_len (l_cons (e_var 2) (l_nil)))) (l_nil))))))) (sx_of (s_reto 3)))
def o__law_order : List Da → List Da → Option (Rp × List Da) := defG 1 5 sf__law_order
def sf__law_within : Sf := s_ret (e_bin o_eq (e_new (l_lc (l_items (e_var 0)) (.one 2) (t_bool (e_bin o_notin (e_var 2) (e_var 1))) (e_var 2) [2])) (e_lst (l_nil)))
def o__law_within : List Da → Option Da := defD 2 3 sf__law_within
def sf__law_tops : Sf := s_seq (s_own 1 (l_lst (l_nil))) (s_seq (s_for (l_items (e_var 0)) (.one 2) (s_if (t_and (t_bool (e_bin o_ne (e_var 2) (e_lst (l_nil)))) (t_and (t_sc (t_bool (e_bin o_notin (e_var 2) (e_var 1)))) (t_bool (e_bin o_eq (e_new (l_lc (l_items (e_var 0)) (.one 3) (t_and (t_bool (e_bin o_ne (e_var 2) (e_var 3))) (t_val (e_call o__law_within (l_cons (e_var 2) (l_cons (e_var 3) (l_nil)))))) (e_var 3) [3])) (e_lst (l_nil)))))) (s_app 1 (e_var 2)) (s_nil))) (s_ret (e_new (l_sortedo 1))))
def o__law_tops : List Da → Option Da := defD 1 4 sf__law_tops
def sf__law_body : Sx := sx_seq (sx_asg 2 (x_bin o_add (x_of (e_c (.int 1))) (x_callG 0 1 o__law_random (x_of (l_cons (e_var 1) (l_nil)))))) (sx_seq (sx_of (s_own 3 (l_lst (l_nil)))) (sx_seq (sx_for (xl_range1 (xa_cons (x_callG 0 1 o__law_random (x_of (l_cons (e_c (.int 6)) (l_nil)))) (retX (some [])))) (.one 4) (sx_seq (sx_asg 5 (x_bin o_add (x_of (e_c (.int 1))) (x_callG 0 1 o__law_pick (x_of (l_cons (e_lst (l_cons (e_c (.int 0)) (l_cons (e_c (.int 1)) (l_cons (e_c (.int 1)) (l_cons (e_c (.int 2)) (l_cons (e_c (.int 2)) (l_cons (e_c (.int 2)) (l_cons (e_c (.int 3)) (l_nil))))))))) (l_nil)))))) (sx_app 3 (x_new (xl_call cl_sorted (xa_cons (x_cut (x_callG 0 1 o__law_order (x_of (l_cons (e_new (l_listRg (rg1 (e_var 2)))) (l_nil)))) (retX (some none)) (xp_at (x_of (e_var 5)))) (retX (some [])))))))) (sx_frz 3 (sx_of (s_ret (e_tup (l_cons (e_c (.str "complex")) (l_cons (e_var 2) (l_cons (e_call o__law_tops (l_cons (e_var 3) (l_nil))) (l_nil))))))))))
def o__law_body : List Da → List Da → Option (Rp × List Da) := defG 1 6 sf__law_body
def sf__law_body_right : Sx := sx_seq (sx_par [2, 3] (xp_im (x_of (e_bin o_ix (e_var 1) (e_c (.int 1)))) (xp_im (x_of (e_call o_all_faces (l_cons (e_var 1) (l_nil)))) (xp_nil)))) (sx_seq (sx_of (s_if (t_or (t_bool (e_bin o_ne (e_call o_complex_with (l_cons (e_var 2) (l_cons (e_bin o_ix (e_var 1) (e_c (.int 2))) (l_nil)))) (e_var 1))) (t_or (t_bool (e_bin o_ne (e_call o_complex_with (l_cons (e_var 2) (l_cons (e_var 3) (l_nil)))) (e_var 1))) (t_or (t_bool (e_bin o_ne (e_call o_complex_barring (l_cons (e_var 2) (l_cons (e_call o_least_missing (l_cons (e_var 1) (l_nil))) (l_nil)))) (e_var 1))) (t_not (t_val (e_call o_is_complex (l_cons (e_var 1) (l_nil)))))))) (s_ret (e_c (.bool false))) (s_nil))) (sx_seq (sx_of (s_if (t_or (t_bool (e_bin o_ne (e_call c_sum (l_cons (e_call o_face_counts (l_cons (e_var 1) (l_nil))) (l_nil))) (e_call c_len (l_cons (e_var 3) (l_nil))))) (t_bool (e_bin o_ne (e_new (l_lc (l_items (e_var 3)) (.one 8) (t_not (t_val (e_call o_is_face (l_cons (e_var 1) (l_cons (e_var 8) (l_nil)))))) (e_var 8) [8])) (e_lst (l_nil))))) (s_ret (e_c (.bool false))) (s_nil))) (sx_seq (sx_of (s_asg 4 (e_tup (l_cons (e_c (.str "complex")) (l_cons (e_var 2) (l_cons (e_lst (l_nil)) (l_nil))))))) (sx_seq (sx_for (x_of (l_range1 (l_cons (e_c (.int 3)) (l_nil)))) (.one 5) (sx_of (s_seq (s_asg 6 (e_call o_skeleton (l_cons (e_var 1) (l_cons (e_var 5) (l_nil))))) (s_seq (s_if (t_or (t_bool (e_bin o_ne (e_call o_union (l_cons (e_var 4) (l_cons (e_var 6) (l_nil)))) (e_var 6))) (t_or (t_bool (e_bin o_ne (e_call o_meet (l_cons (e_var 6) (l_cons (e_var 1) (l_nil)))) (e_var 6))) (t_bool (e_bin o_ne (e_call o_face_counts (l_cons (e_var 6) (l_nil))) (e_cut (e_call o_face_counts (l_cons (e_var 1) (l_nil))) p_no (p_at (e_bin o_add (e_var 5) (e_c (.int 1))))))))) (s_ret (e_c (.bool false))) (s_nil)) (s_asg 4 (e_var 6)))))) (sx_seq (sx_of (s_if (t_or (t_bool (e_bin o_ne (e_call o_euler_number (l_cons (e_call o_cone (l_cons (e_var 1) (l_nil))) (l_nil))) (e_c (.int 1)))) (t_or (t_and (t_bool (e_bin (o_ord PySem.W.dataLt) (e_var 2) (e_c (.int 6)))) (t_bool (e_bin o_ne (e_call o_euler_number (l_cons (e_call o_hung (l_cons (e_var 1) (l_nil))) (l_nil))) (e_bin (o_int p_sub) (e_c (.int 2)) (e_call o_euler_number (l_cons (e_var 1) (l_nil))))))) (t_bool (e_bin o_ne (e_call c_len (l_cons (e_call o_least_missing (l_cons (e_call o_cone (l_cons (e_var 1) (l_nil))) (l_nil))) (l_nil))) (e_call c_len (l_cons (e_call o_least_missing (l_cons (e_var 1) (l_nil))) (l_nil))))))) (s_ret (e_c (.bool false))) (s_nil))) (sx_seq (sx_asg 7 (x_callG 0 1 o__law_order (x_of (l_cons (e_new (l_listRg (rg1 (e_var 2)))) (l_nil))))) (sx_of (s_ret (e_and (e_bin o_eq (e_call o_face_counts (l_cons (e_call o_renamed (l_cons (e_var 1) (l_cons (e_var 7) (l_nil)))) (l_nil))) (e_call o_face_counts (l_cons (e_var 1) (l_nil)))) (e_bin o_eq (e_call o_is_flag (l_cons (e_call o_renamed (l_cons (e_var 1) (l_cons (e_var 7) (l_nil)))) (l_nil))) (e_call o_is_flag (l_cons (e_var 1) (l_nil)))))))))))))
def o__law_body_right : List Da → List Da → Option (Rp × List Da) := defG 1 9 sf__law_body_right
def sf__law_faces_right : Sx := sx_seq (sx_for (xl_items (x_cut (x_callG 0 1 o__law_order (x_of (l_cons (e_call o_all_faces (l_cons (e_var 1) (l_nil))) (l_nil)))) (retX (some none)) (xp_at (x_of (e_c (.int 4)))))) (.one 2) (sx_of (s_seq (s_asg 3 (e_call o_link (l_cons (e_var 1) (l_cons (e_var 2) (l_nil))))) (s_seq (s_if (t_bool (e_bin o_ne (e_call o_complex_with (l_cons (e_bin o_ix (e_var 1) (e_c (.int 1))) (l_cons (e_bin o_add (e_new (l_lc (l_items (e_bin o_ix (e_var 3) (e_c (.int 2)))) (.one 4) (fun _ => some true) (e_new (l_call cl_sorted (l_cons (e_bin o_add (e_var 4) (e_var 2)) (l_nil)))) [4])) (e_lst (l_cons (e_var 2) (l_nil)))) (l_nil)))) (e_call o_star (l_cons (e_var 1) (l_cons (e_var 2) (l_nil)))))) (s_ret (e_c (.bool false))) (s_nil)) (s_if (t_bool (e_bin o_ne (e_bin o_add (e_bin o_add (e_call c_len (l_cons (e_call o_all_faces (l_cons (e_call o_without (l_cons (e_var 1) (l_cons (e_var 2) (l_nil)))) (l_nil))) (l_nil))) (e_call c_len (l_cons (e_call o_all_faces (l_cons (e_var 3) (l_nil))) (l_nil)))) (e_c (.int 1))) (e_call c_len (l_cons (e_call o_all_faces (l_cons (e_var 1) (l_nil))) (l_nil))))) (s_ret (e_c (.bool false))) (s_nil)))))) (sx_of (s_ret (e_c (.bool true))))
def o__law_faces_right : List Da → List Da → Option (Rp × List Da) := defG 1 5 sf__law_faces_right
def sf__law_two_right : Sf := s_seq (s_par_ii 2 3 (e_call o_join (l_cons (e_var 0) (l_cons (e_var 1) (l_nil)))) (e_call o_join (l_cons (e_var 1) (l_cons (e_var 0) (l_nil))))) (s_seq (s_asg 4 (e_bin o_add (e_new (l_lc (l_range1 (l_cons (e_bin o_ix (e_var 0) (e_c (.int 1))) (l_nil))) (.one 5) (fun _ => some true) (e_bin o_add (e_var 5) (e_bin o_ix (e_var 1) (e_c (.int 1)))) [5])) (e_new (l_listRg (rg1 (e_bin o_ix (e_var 1) (e_c (.int 1)))))))) (s_seq (s_if (t_or (t_bool (e_bin o_ne (e_call o_renamed (l_cons (e_var 2) (l_cons (e_var 4) (l_nil)))) (e_var 3))) (t_bool (e_bin o_ne (e_bin o_add (e_call c_len (l_cons (e_call o_all_faces (l_cons (e_var 2) (l_nil))) (l_nil))) (e_c (.int 1))) (e_bin o_mult (e_bin o_add (e_call c_len (l_cons (e_call o_all_faces (l_cons (e_var 0) (l_nil))) (l_nil))) (e_c (.int 1))) (e_bin o_add (e_call c_len (l_cons (e_call o_all_faces (l_cons (e_var 1) (l_nil))) (l_nil))) (e_c (.int 1))))))) (s_ret (e_c (.bool false))) (s_nil)) (s_seq (s_if (t_bool (e_bin o_ne (e_call o_is_flag (l_cons (e_var 2) (l_nil))) (e_and (e_call o_is_flag (l_cons (e_var 0) (l_nil))) (e_call o_is_flag (l_cons (e_var 1) (l_nil)))))) (s_ret (e_c (.bool false))) (s_nil)) (s_ret (e_or (e_bin o_eq (e_bin o_ix (e_var 0) (e_c (.int 2))) (e_lst (l_nil))) (e_or (e_bin o_eq (e_bin o_ix (e_var 1) (e_c (.int 2))) (e_lst (l_nil))) (e_bin o_eq (e_call o_is_even_topped (l_cons (e_var 2) (l_nil))) (e_and (e_call o_is_even_topped (l_cons (e_var 0) (l_nil))) (e_call o_is_even_topped (l_cons (e_var 1) (l_nil)))))))))))
def o__law_two_right : List Da → Option Da := defD 2 6 sf__law_two_right
def sf__law_right : Sx := sx_seq (sx_par [1, 2] (xp_im (x_callG 0 1 o__law_body (x_of (l_cons (e_c (.int 5)) (l_nil)))) (xp_im (x_callG 0 1 o__law_body (x_of (l_cons (e_c (.int 2)) (l_nil)))) (xp_nil)))) (sx_seq (sx_if (xt_or (xt_not (xt_val (x_callG 0 1 o__law_body_right (x_of (l_cons (e_var 1) (l_nil)))))) (xt_or (xt_not (xt_val (x_callG 0 1 o__law_faces_right (x_of (l_cons (e_var 1) (l_nil)))))) (x_of (t_not (t_val (e_call o__law_two_right (l_cons (e_var 1) (l_cons (e_var 2) (l_nil))))))))) (sx_of (s_ret (e_c (.bool false)))) (sx_nil)) (sx_seq (sx_asg 3 (x_bin o_add (x_of (e_c (.int 2))) (x_callG 0 1 o__law_random (x_of (l_cons (e_c (.int 4)) (l_nil)))))) (sx_of (s_ret (e_and (e_bin o_eq (e_call o_sphere (l_cons (e_var 3) (l_nil))) (e_call o_skeleton (l_cons (e_call o_ball (l_cons (e_var 3) (l_nil))) (l_cons (e_bin (o_int p_sub) (e_var 3) (e_c (.int 2))) (l_nil))))) (e_bin o_eq (e_call o_euler_number (l_cons (e_call o_ball (l_cons (e_var 3) (l_nil))) (l_nil))) (e_c (.int 1))))))))
def o__law_right : List Da → List Da → Option (Rp × List Da) := defG 0 4 sf__law_right
def sf_law : Sx := sx_seq (sx_for (x_of (l_range1 (l_cons (e_c (.int 2)) (l_nil)))) (.one 1) (sx_seq (sx_of (s_own 2 (l_bindN o__law_generator (l_cons (e_var 0) (l_cons (e_var 1) (l_nil)))))) (sx_if (xt_or (xt_not (xt_val (x_callG 2 0 o__law_right (x_of (l_nil))))) (xt_not (xt_val (x_callG 2 0 o__law_right (x_of (l_nil)))))) (sx_of (s_ret (e_c (.bool false)))) (sx_nil)))) (sx_of (s_ret (e_c (.bool true))))
def o_law : List Da → Option Rp := defX 1 3 sf_law
end K09
end

section
set_option Elab.async false
set_option linter.all false
set_option maxRecDepth 100000
set_option maxHeartbeats 2000000
/-! Plain: kinds of data, what the operators answer at them. -/
namespace MM
open PySem DD

/-- a kind of data: how it is written, == is equality, it may be laid -/
class Dat (α : Type) [DecidableEq α] where
  enc : α → Da
  dep : Nat
  eqv : ∀ a b : α, PyData.eqv (enc a) (enc b) = decide (a = b)
  lay : ∀ a : α, (enc a).canLay0 = true
  depth : ∀ a : α, (enc a).depth ≤ dep
open Dat (enc)

instance : Dat Int where
  enc n := .int n
  dep := 0
  eqv a b := by
    show (a == b) = _
    rw [Bool.eq_iff_iff]; simp
  lay _ := rfl
  depth _ := Nat.le_refl _
instance : Dat Bool where
  enc n := .bool n
  dep := 0
  eqv a b := by
    show (a == b) = _
    rw [Bool.eq_iff_iff]; simp
  lay _ := rfl
  depth _ := Nat.le_refl _
section
variable {α β : Type} [DecidableEq α] [DecidableEq β] [Dat α] [Dat β]
theorem eqvAll_enc : ∀ xs ys : List α, PyData.eqvAll (xs.map enc) (ys.map enc) = decide (xs = ys)
  | [], [] => rfl
  | [], _ :: _ => rfl
  | _ :: _, [] => rfl
  | x :: xs, y :: ys => by
    simp only [List.map_cons, PyData.eqvAll, Dat.eqv, eqvAll_enc xs ys]
    rw [Bool.eq_iff_iff]
    simp
theorem layAll_enc : ∀ xs : List α, PyData.canLayAll0 (xs.map enc) = true
  | [] => rfl
  | x :: xs => by simp only [List.map_cons, PyData.canLayAll0, Dat.lay, layAll_enc xs, Bool.and_self]
theorem depAll_enc : ∀ xs : List α, PyData.depthAll (xs.map enc) ≤ Dat.dep α
  | [] => Nat.zero_le _
  | x :: xs => by
    simp only [List.map_cons, PyData.depthAll]
    exact Nat.max_le.mpr ⟨Dat.depth x, depAll_enc xs⟩
instance : Dat (List α) where
  enc xs := .list (xs.map enc)
  dep := Dat.dep α + 1
  eqv a b := eqvAll_enc a b
  lay a := layAll_enc a
  depth a := Nat.succ_le_succ (depAll_enc a)
instance : Dat (α × β) where
  enc p := .tuple [enc p.1, enc p.2]
  dep := max (Dat.dep α) (Dat.dep β) + 1
  eqv a b := by
    obtain ⟨a1, a2⟩ := a
    obtain ⟨b1, b2⟩ := b
    show (PyData.eqv (enc a1) (enc b1) && (PyData.eqv (enc a2) (enc b2) && true)) = _
    rw [Dat.eqv, Dat.eqv, Bool.eq_iff_iff]
    simp
  lay a := by
    show (PyData.canLay0 (enc a.1) && (PyData.canLay0 (enc a.2) && true)) = true
    rw [Dat.lay, Dat.lay]; rfl
  depth a := by
    show max (PyData.depth (enc a.1)) (max (PyData.depth (enc a.2)) 0) + 1 ≤ _
    have h1 := Dat.depth a.1
    have h2 := Dat.depth a.2
    refine Nat.succ_le_succ ?_
    omega
end
/-- a complex: its number of points, its tops -/
structure Bd where
  m : Int
  ts : List (List Int)
  deriving DecidableEq
theorem eqv_str (x : Str) : PyData.eqv (.str x) (.str x) = true := by
  show (x == x) = true
  simp
instance : Dat Bd where
  enc b := .tuple [.str "complex", enc b.m, enc b.ts]
  dep := 3
  eqv a b := by
    obtain ⟨m, a⟩ := a
    obtain ⟨n, b⟩ := b
    show (PyData.eqv (.str "complex") (.str "complex") && (PyData.eqv (enc m) (enc n) && (PyData.eqv (enc a) (enc b) && true))) = _
    rw [eqv_str, Dat.eqv, Dat.eqv, Bool.eq_iff_iff]
    simp
  lay a := by
    show (PyData.canLay0 (.str "complex") && (PyData.canLay0 (enc a.m) && (PyData.canLay0 (enc a.ts) && true))) = true
    rw [Dat.lay, Dat.lay]
    decide +kernel
  depth a := by
    show max (PyData.depth (.str "complex")) (max (PyData.depth (enc a.m)) (max (PyData.depth (enc a.ts)) 0)) + 1 ≤ _
    have h1 := Dat.depth a.m
    have h2 := Dat.depth a.ts
    have e1 : Dat.dep Int = 0 := rfl
    have e2 : Dat.dep (List (List Int)) = 2 := rfl
    have e3 : PyData.depth (.str "complex") = 0 := rfl
    omega

section
variable {α β : Type} [DecidableEq α] [DecidableEq β] [Dat α] [Dat β]
theorem shaped_enc (h : Dat.dep α ≤ 64 := by decide) (a : α) : SeqAt.shaped (enc a) = true := by
  unfold SeqAt.shaped
  rw [Dat.lay, decide_eq_true (Nat.le_trans (Dat.depth a) h)]; rfl
theorem ev_eq (a b : α) (h : Dat.dep α ≤ 64 := by decide) : o_eq (enc a) (enc b) = some (enc (decide (a = b))) := by
  unfold o_eq okD
  rw [shaped_enc h, shaped_enc h, Dat.eqv]; rfl
theorem ev_ne (a b : α) (h : Dat.dep α ≤ 64 := by decide) : o_ne (enc a) (enc b) = some (enc (decide (a ≠ b))) := by
  unfold o_ne okD
  rw [shaped_enc h, shaped_enc h, Dat.eqv]
  show some (PyData.bool (!decide (a = b))) = some (PyData.bool (decide (a ≠ b)))
  simp
/-- is it among them -/
def memB (a : α) (xs : List α) : Bool := xs.any fun x => decide (x = a)
theorem memB_iff {a : α} {xs : List α} : memB a xs = true ↔ a ∈ xs := by
  unfold memB
  simp only [List.any_eq_true, decide_eq_true_eq]
  exact ⟨fun ⟨x, hx, e⟩ => e ▸ hx, fun h => ⟨a, h, rfl⟩⟩
theorem any_enc (a : α) (xs : List α) : ((xs.map enc).any fun z => PyData.eqv z (enc a)) = memB a xs := by
  rw [List.any_map]
  unfold memB
  congr 1
  funext x
  exact Dat.eqv x a
theorem ev_in (a : α) (xs : List α) (h : Dat.dep α + 1 ≤ 64 := by decide) : o_in (enc a) (enc xs) = some (enc (memB a xs)) := by
  show (if okD (enc a) && okD (enc xs) then some (PyData.bool ((xs.map enc).any fun z => PyData.eqv z (enc a))) else none) = _
  rw [any_enc]
  unfold okD
  rw [shaped_enc (Nat.le_of_succ_le h), shaped_enc (α := List α) h]; rfl
theorem ev_notin (a : α) (xs : List α) (h : Dat.dep α + 1 ≤ 64 := by decide) : o_notin (enc a) (enc xs) = some (enc (!memB a xs)) := by
  show (if okD (enc a) && okD (enc xs) then some (PyData.bool (!(xs.map enc).any fun z => PyData.eqv z (enc a))) else none) = _
  rw [any_enc]
  unfold okD
  rw [shaped_enc (Nat.le_of_succ_le h), shaped_enc (α := List α) h]; rfl
end

/-! ### order -/
/-- a kind in order -/
class DatO (α : Type) [DecidableEq α] extends Dat α where
  lt : α → α → Bool
  alike : ∀ a b : α, PySem.W.alike (enc a) (enc b) = true
  lt_eq : ∀ a b : α, PySem.W.dataLt (enc a) (enc b) = lt a b
  noSc : ∀ a : α, noSc (enc a) = true
  notNone : ∀ a : α, isNone (enc a) = false
instance : DatO Int where
  lt a b := decide (a < b)
  alike _ _ := by simp only [Dat.enc, PySem.W.alike]
  lt_eq a b := PySem.W.dataLt_int a b
  noSc _ := rfl
  notNone _ := rfl
section
variable {α β : Type} [DecidableEq α] [DecidableEq β] [DatO α] [DatO β]
def lexL : List α → List α → Bool
  | [], [] => false
  | [], _ :: _ => true
  | _ :: _, [] => false
  | x :: xs, y :: ys => if x = y then lexL xs ys else DatO.lt x y
theorem alikeAll_enc : ∀ xs ys : List α, PySem.W.alikeAll (xs.map enc) (ys.map enc) = true
  | [], [] => by simp [PySem.W.alikeAll]
  | [], _ :: _ => by simp [PySem.W.alikeAll]
  | _ :: _, [] => by simp [PySem.W.alikeAll]
  | x :: xs, y :: ys => by simp only [List.map_cons, PySem.W.alikeAll, DatO.alike, alikeAll_enc xs ys, Bool.and_self]
theorem lexAll_enc : ∀ xs ys : List α, PyProof.Rows.lexLt PyProof.Rows.itemOrd (PySem.W.keyToksAll (xs.map enc)) (PySem.W.keyToksAll (ys.map enc)) = lexL xs ys
  | [], [] => PyProof.Rows.lex_irrefl _
  | [], y :: ys => by simp only [List.map_cons, List.map_nil, PySem.W.keyToksAll, lexL]; rfl
  | x :: xs, [] => by simp only [List.map_cons, List.map_nil, PySem.W.keyToksAll, lexL]; rfl
  | x :: xs, y :: ys => by
    rw [List.map_cons, List.map_cons, PySem.W.dataLt_cons (DatO.alike x y), Dat.eqv, lexAll_enc xs ys, DatO.lt_eq]
    show _ = if x = y then lexL xs ys else DatO.lt x y
    by_cases h : x = y
    · rw [if_pos h, if_pos (decide_eq_true h)]
    · rw [if_neg h, if_neg (by simpa using h)]
theorem noScA_enc : ∀ xs : List α, noScA (xs.map enc) = true
  | [] => rfl
  | x :: xs => by rw [List.map_cons, noScA, DatO.noSc, noScA_enc xs]; rfl
instance : DatO (List α) where
  lt := lexL
  alike a b := by
    show PySem.W.alike (.list _) (.list _) = true
    rw [PySem.W.alike]
    exact alikeAll_enc a b
  lt_eq a b := by
    show PySem.W.dataLt (.list _) (.list _) = _
    rw [PySem.W.dataLt_list]
    exact lexAll_enc a b
  noSc a := by
    show noSc (.list _) = true
    rw [noSc]; exact noScA_enc a
  notNone _ := rfl
def lexP (a b : α × β) : Bool := if a.1 = b.1 then (if a.2 = b.2 then false else DatO.lt a.2 b.2) else DatO.lt a.1 b.1
instance : DatO (α × β) where
  lt := lexP
  alike a b := by
    show PySem.W.alike (.tuple _) (.tuple _) = true
    simp only [PySem.W.alike, PySem.W.alikeAll, DatO.alike, Bool.and_self]
  lt_eq a b := by
    obtain ⟨a1, a2⟩ := a
    obtain ⟨b1, b2⟩ := b
    show PySem.W.dataLt (.tuple [enc a1, enc a2]) (.tuple [enc b1, enc b2]) = _
    rw [PySem.W.dataLt_pair (DatO.alike _ _) (DatO.alike _ _), Dat.eqv, Dat.eqv, DatO.lt_eq, DatO.lt_eq]
    unfold lexP
    by_cases h : a1 = b1
    · by_cases g : a2 = b2
      · simp [h, g]
      · simp [h, g]
    · simp [h]
  noSc a := by
    show noSc (.tuple [_, _]) = true
    simp only [noSc, noScA, DatO.noSc, Bool.and_self]
  notNone _ := rfl
theorem ev_ord {p : Da → Da → Bool} (a b : α) (h : Dat.dep α ≤ 60 := by decide) : o_ord p (enc a) (enc b) = some (.bool (p (enc a) (enc b))) := by
  unfold o_ord
  rw [DatO.alike, DatO.notNone, DatO.noSc, DatO.noSc, decide_eq_true (Nat.le_trans (Dat.depth a) h)]; rfl
theorem ev_lt (a b : α) (h : Dat.dep α ≤ 60 := by decide) : o_ord PySem.W.dataLt (enc a) (enc b) = some (enc (DatO.lt a b)) := by rw [ev_ord a b h, DatO.lt_eq]; rfl
theorem ev_gt (a b : α) (h : Dat.dep α ≤ 60 := by decide) : o_ord (fun d e => PySem.W.dataLt e d) (enc a) (enc b) = some (enc (DatO.lt b a)) := by rw [ev_ord a b h, DatO.lt_eq]; rfl
theorem ev_le (a b : α) (h : Dat.dep α ≤ 60 := by decide) : o_ord (fun d e => !PySem.W.dataLt e d) (enc a) (enc b) = some (enc (!DatO.lt b a)) := by rw [ev_ord a b h, DatO.lt_eq]; rfl
theorem ev_ge (a b : α) (h : Dat.dep α ≤ 60 := by decide) : o_ord (fun d e => !PySem.W.dataLt d e) (enc a) (enc b) = some (enc (!DatO.lt a b)) := by rw [ev_ord a b h, DatO.lt_eq]; rfl

/-! ### sorted -/
def ins (x : α) : List α → List α
  | [] => [x]
  | y :: r => if DatO.lt y x then y :: ins x r else x :: y :: r
def isort : List α → List α
  | [] => []
  | x :: r => ins x (isort r)
theorem insD_enc (x : α) : ∀ xs : List α, insD (enc x) (xs.map enc) = (ins x xs).map enc
  | [] => rfl
  | y :: r => by
    rw [List.map_cons, insD, DatO.lt_eq]
    unfold ins
    by_cases h : DatO.lt y x = true
    · rw [if_pos h, if_pos h, insD_enc x r]; rfl
    · rw [if_neg h, if_neg h]; rfl
theorem sortD_enc : ∀ xs : List α, sortD (xs.map enc) = (isort xs).map enc
  | [] => rfl
  | x :: r => by rw [List.map_cons, sortD, sortD_enc r, insD_enc]; rfl
/-- what may be sorted -/
class Srt (α : Type) [DecidableEq α] [DatO α] : Prop where
  way : (∀ a : α, tupB (enc a) = true) ∨ (∀ a : α, othB (enc a) = true)
  dep : Dat.dep α ≤ 60
theorem sortable_enc [Srt α] (xs : List α) : sortable (xs.map enc) = true := by
  unfold sortable
  have h1 : ((xs.map enc).all fun d => (xs.map enc).all fun e => PySem.W.alike d e) = true := by
    simp only [List.all_eq_true, List.mem_map]
    rintro _ ⟨a, _, rfl⟩ _ ⟨b, _, rfl⟩
    exact DatO.alike a b
  have h2 : ((xs.map enc).all tupB || (xs.map enc).all othB) = true := by
    rw [Bool.or_eq_true, List.all_eq_true, List.all_eq_true]
    rcases Srt.way (α := α) with h | h
    · refine .inl ?_
      intro d hd
      obtain ⟨a, _, rfl⟩ := List.mem_map.mp hd
      exact h a
    · refine .inr ?_
      intro d hd
      obtain ⟨a, _, rfl⟩ := List.mem_map.mp hd
      exact h a
  have h3 : ((xs.map enc).all fun d => decide (d.depth ≤ 60)) = true := by
    simp only [List.all_eq_true, List.mem_map, decide_eq_true_eq]
    rintro _ ⟨a, _, rfl⟩
    exact Nat.le_trans (Dat.depth a) Srt.dep
  rw [h1, h2, h3, noScA_enc]; rfl
theorem ev_sorted [Srt α] (xs : List α) : cl_sorted [enc xs] = some ((isort xs).map enc) := by
  show (if sortable (xs.map enc) = true then some (sortD (xs.map enc)) else none) = _
  rw [if_pos (sortable_enc xs), sortD_enc]
end
instance : Srt Int := ⟨.inr fun _ => rfl, by decide⟩
instance : Srt (List Int) := ⟨.inr fun _ => rfl, by decide⟩
instance : Srt (Int × List Int) := ⟨.inl fun _ => rfl, by decide⟩
instance : Srt (List Int × Int) := ⟨.inl fun _ => rfl, by decide⟩
end MM
end

section
set_option Elab.async false
set_option linter.all false
set_option maxRecDepth 100000
set_option maxHeartbeats 2000000
/-! Plain: what the expressions and statements answer, step by step. -/
namespace MM
open PySem DD
open Dat (enc)

section
variable {ρ ρ' : DEnv} {f g k : Ef} {l l' : Lf} {d e r : Da} {ds es : List Da} {o : Da → Da → Option Da} {oc : List Da → Option Da} {t u : Tf} {b c : Bool}
theorem v_call (h : l ρ = some ds) (h2 : oc ds = some r) : e_call oc l ρ = some r := by unfold e_call; rw [h]; exact h2
theorem v_var {i : Nat} {d : Da} (h : ρ[i]? = some (.im d)) : e_var i ρ = some d := by unfold e_var; rw [h]
theorem v_nil : l_nil ρ = some [] := rfl
theorem v_cons (h : f ρ = some d) (h2 : l ρ = some ds) : l_cons f l ρ = some (d :: ds) := by unfold l_cons; rw [h, Option.bind_some, h2]; rfl
theorem v_bin (h : f ρ = some d) (h2 : g ρ = some e) (h3 : o d e = some r) : e_bin o f g ρ = some r := by unfold e_bin; rw [h, Option.bind_some, h2]; exact h3
theorem v_new (h : l ρ = some ds) : e_new l ρ = some (.list ds) := by unfold e_new; rw [h]; rfl
theorem v_lcall {on : List Da → Option (List Da)} (h : l ρ = some ds) (h2 : on ds = some es) : l_call on l ρ = some es := by unfold l_call; rw [h]; exact h2
theorem v_lst (h : l ρ = some ds) (hz : ds.length ≤ 16777216) : e_lst l ρ = some (.list ds) := by unfold e_lst; rw [h, Option.bind_some, if_pos (by rw [PySem.sizeLine_eq]; exact hz)]
theorem v_tup (h : l ρ = some ds) (hz : ds.length ≤ 16777216 := by show _ ≤ _; simp) : e_tup l ρ = some (.tuple ds) := by unfold e_tup; rw [h, Option.bind_some, if_pos (by rw [PySem.sizeLine_eq]; exact hz)]
theorem v_llst (h : l ρ = some ds) (hz : ds.length ≤ 16777216) : l_lst l ρ = some ds := by unfold l_lst; rw [h, Option.bind_some, if_pos (by rw [PySem.sizeLine_eq]; exact hz)]
theorem v_cI (i : Int) : e_c (.int i) ρ = some (enc i) := rfl
theorem v_cB (b : Bool) : e_c (.bool b) ρ = some (enc b) := rfl
theorem v_isi {T : String} (h : f ρ = some d) (hc : isSc d = false) : e_isi T f ρ = some (enc (isT T d)) := by unfold e_isi; rw [h, Option.bind_some, if_pos hc]; rfl
theorem v_and (h : f ρ = some (enc b)) (h2 : b = true → g ρ = some (enc c)) : e_and f g ρ = some (enc (b && c)) := by
  unfold e_and; rw [h]
  cases b with
  | true => exact h2 rfl
  | false => rfl
theorem v_or (h : f ρ = some (enc b)) (h2 : b = false → g ρ = some (enc c)) : e_or f g ρ = some (enc (b || c)) := by
  unfold e_or; rw [h]
  cases b with
  | false => exact h2 rfl
  | true => rfl
theorem v_not (h : f ρ = some (enc b)) : e_not f ρ = some (enc (!b)) := by unfold e_not; rw [h]; rfl
theorem v_neg {i : Int} (h : f ρ = some (enc i)) : e_neg f ρ = some (enc (-i)) := by unfold e_neg; rw [h]; rfl
theorem v_tbool (h : f ρ = some (enc b)) : t_bool f ρ = some b := by unfold t_bool; rw [h]; rfl
theorem v_tvalB (h : f ρ = some (enc b)) : t_val f ρ = some b := by unfold t_val; rw [h]; rfl
theorem v_tnot (h : t ρ = some b) : t_not t ρ = some (!b) := by unfold t_not; rw [h]; rfl
theorem v_tand (h : t ρ = some b) (h2 : b = true → u ρ = some c) : t_and t u ρ = some (b && c) := by
  unfold t_and; rw [h]
  cases b with
  | true => exact h2 rfl
  | false => rfl
theorem v_tor (h : t ρ = some b) (h2 : b = false → u ρ = some c) : t_or t u ρ = some (b || c) := by
  unfold t_or; rw [h]
  cases b with
  | false => exact h2 rfl
  | true => rfl
theorem v_tsc (h : t (thaw ρ) = some b) : t_sc t ρ = some b := h
theorem v_esc {α : Type} (h : f (thaw ρ) = some d) (hs : scal d = true) : e_sc f ρ = some d := by unfold e_sc; rw [h]; simp [hs]
theorem v_eif {d e : Da} (h : t ρ = some b) (h1 : b = true → f ρ = some d) (h2 : b = false → g ρ = some e) : e_if t f g ρ = some (if b = true then d else e) := by
  unfold e_if; rw [h]
  cases b with
  | true => rw [if_pos rfl]; exact h1 rfl
  | false => rw [if_neg Bool.false_ne_true]; exact h2 rfl
theorem v_items {α : Type} [DecidableEq α] [Dat α] {xs : List α} (h : f ρ = some (enc xs)) : l_items f ρ = some (xs.map enc) := by unfold l_items; rw [h]; rfl
theorem v_itemsL (h : f ρ = some (.list ds)) : l_items f ρ = some ds := by unfold l_items; rw [h]
theorem v_chain {o o' : Da → Da → Option Da} {x y z : Da} (h : f ρ = some x) (h2 : g ρ = some y) (h3 : o x y = some (enc b)) (h4 : b = true → k ρ = some z) (h5 : b = true → o' y z = some (enc c)) : e_chain o o' f g k ρ = some (enc (b && c)) := by
  unfold e_chain; rw [h, Option.bind_some, h2, Option.bind_some, h3]
  cases b with
  | true =>
    show ((k ρ).bind fun z => o' y z) = _
    rw [h4 rfl, Option.bind_some]; exact h5 rfl
  | false => rfl
/-! statements -/
variable {sf sg : Sf} {fl : Option Fl}
theorem v_run {n nN : Nat} (hn : ds.length = n) (h : sf (startE nN ds) = some (.rt d ρ')) : defD n nN sf ds = some d := by unfold defD runD; rw [if_pos hn, h]
theorem v_runN {n nN : Nat} (hn : ds.length = n) (h : sf (startE nN ds) = some (.nx ρ')) : defD n nN sf ds = some .none := by unfold defD runD; rw [if_pos hn, h]
theorem v_ret (h : f ρ = some d) : s_ret f ρ = some (.rt d ρ) := by unfold s_ret; rw [h]; rfl
theorem v_seq (h : sf ρ = some (.nx ρ')) (h2 : sg ρ' = fl) : s_seq sf sg ρ = fl := by unfold s_seq; rw [h]; exact h2
theorem v_seqR (h : sf ρ = some (.rt d ρ')) : s_seq sf sg ρ = some (.rt d ρ') := by unfold s_seq; rw [h]
theorem v_asg {i : Nat} (h : f ρ = some d) : s_asg i f ρ = some (.nx (ρ.set i (.im d))) := by unfold s_asg; rw [h]; rfl
theorem v_own {i : Nat} (h : l ρ = some ds) : s_own i l ρ = some (.nx (ρ.set i (.ow ds))) := by unfold s_own; rw [h]; rfl
theorem v_drop (h : f ρ = some d) : s_drop f ρ = some (.nx ρ) := by unfold s_drop; rw [h]; rfl
theorem v_ifF (h : t ρ = some b) (hb : b = false) (h2 : sg ρ = fl) : s_if t sf sg ρ = fl := by unfold s_if; rw [h, hb]; exact h2
theorem v_ifT (h : t ρ = some b) (hb : b = true) (h2 : sf ρ = fl) : s_if t sf sg ρ = fl := by unfold s_if; rw [h, hb]; exact h2
theorem v_snil : s_nil ρ = some (.nx ρ) := rfl
theorem v_par_ii {i j : Nat} (h : f ρ = some d) (h2 : g ρ = some e) : s_par_ii i j f g ρ = some (.nx ((ρ.set i (.im d)).set j (.im e))) := by unfold s_par_ii; rw [h, Option.bind_some, h2]; rfl
theorem v_par_io {i j : Nat} (h : f ρ = some d) (h2 : l ρ = some es) : s_par_io i j f l ρ = some (.nx ((ρ.set i (.im d)).set j (.ow es))) := by unfold s_par_io; rw [h, Option.bind_some, h2]; rfl
theorem v_par_oi {i j : Nat} (h : l ρ = some ds) (h2 : g ρ = some e) : s_par_oi i j l g ρ = some (.nx ((ρ.set i (.ow ds)).set j (.im e))) := by unfold s_par_oi; rw [h, Option.bind_some, h2]; rfl
end

/-! ### comprehensions -/
section
variable {α β : Type} {ρ : DEnv} {it : Lf} {t : Tg} {c : Tf} {e : Ef} {vs : List Nat}
theorem lc_go (f : α → Da) (f' : β → Da) (p : α → Bool) (g : α → β) : ∀ (xs : List α), (∀ x ∈ xs, ∃ ρ1, bindT t (f x) ρ = some ρ1 ∧ c ρ1 = some (p x) ∧ (p x = true → e ρ1 = some (f' (g x)))) → lcGo t c e ρ (xs.map f) = some (((xs.filter p).map g).map f')
  | [], _ => rfl
  | x :: xs, h => by
    obtain ⟨ρ1, h1, h2, h3⟩ := h x List.mem_cons_self
    have ih := lc_go f f' p g xs fun y hy => h y (List.mem_cons_of_mem _ hy)
    rw [List.map_cons, lcGo, h1]
    show (match c ρ1 with
      | none => none
      | some false => lcGo t c e ρ (xs.map f)
      | some true => match e ρ1 with
        | none => none
        | some y => (lcGo t c e ρ (xs.map f)).map fun r => y :: r) = _
    rw [h2]
    cases hp : p x with
    | true =>
      show (match e ρ1 with
        | none => none
        | some y => (lcGo t c e ρ (xs.map f)).map fun r => y :: r) = _
      rw [h3 hp, List.filter_cons_of_pos hp]
      show (lcGo t c e ρ (xs.map f)).map _ = _
      rw [ih]; rfl
    | false =>
      rw [List.filter_cons_of_neg (by rw [hp]; exact Bool.false_ne_true)]
      exact ih
theorem v_lc (f : α → Da) (f' : β → Da) {xs : List α} (p : α → Bool) (g : α → β) (hit : it ρ = some (xs.map f)) (h : ∀ x ∈ xs, ∃ ρ1, bindT t (f x) (wipeE ρ vs) = some ρ1 ∧ c ρ1 = some (p x) ∧ (p x = true → e ρ1 = some (f' (g x)))) : l_lc it t c e vs ρ = some (((xs.filter p).map g).map f') := by
  unfold l_lc; rw [hit]; exact lc_go f f' p g xs h
/-- each item's value -/
theorem v_lcM {f : α → Da} {f' : β → Da} {xs : List α} {g : α → β} (hit : it ρ = some (xs.map f)) (h : ∀ x ∈ xs, ∃ ρ1, bindT t (f x) (wipeE ρ vs) = some ρ1 ∧ e ρ1 = some (f' (g x))) : l_lc it t (fun _ => some true) e vs ρ = some ((xs.map g).map f') := by
  have := v_lc (c := fun _ => some true) (t := t) (e := e) (vs := vs) f f' (fun _ => true) g hit fun x hx => by
    obtain ⟨ρ1, h1, h2⟩ := h x hx
    exact ⟨ρ1, h1, rfl, fun _ => h2⟩
  rw [this, List.filter_eq_self.mpr (fun _ _ => rfl)]
/-- the items that are let -/
theorem v_lcF {f : α → Da} {xs : List α} {p : α → Bool} (hit : it ρ = some (xs.map f)) (h : ∀ x ∈ xs, ∃ ρ1, bindT t (f x) (wipeE ρ vs) = some ρ1 ∧ c ρ1 = some (p x) ∧ e ρ1 = some (f x)) : l_lc it t c e vs ρ = some ((xs.filter p).map f) := by
  have := v_lc (c := c) (t := t) (e := e) (vs := vs) f f p id hit fun x hx => by
    obtain ⟨ρ1, h1, h2, h3⟩ := h x hx
    exact ⟨ρ1, h1, h2, fun _ => h3⟩
  rw [this, List.map_id]
end

/-! ### loops -/
/-- a loop that goes on by one state; N: at most so many turns -/
theorem for_st {α σ : Type} {t : Tg} {b : Sf} {f : α → Da} {st : Nat → σ → DEnv → Prop} {step : σ → α → σ} {N : Nat} : ∀ (xs : List α) (i : Nat) (s : σ) (ρ : DEnv), i + xs.length ≤ N → st i s ρ → (∀ i s ρ x, i < N → x ∈ xs → st i s ρ → ∃ ρ1 ρ2, bindT t (f x) ρ = some ρ1 ∧ b ρ1 = some (.nx ρ2) ∧ st (i + 1) (step s x) ρ2) → ∃ ρ', forGo t b (xs.map f) ρ = some (.nx ρ') ∧ st (i + xs.length) (xs.foldl step s) ρ'
  | [], i, s, ρ, hN, h, _ => ⟨ρ, rfl, h⟩
  | x :: xs, i, s, ρ, hN, h, k => by
    rw [List.length_cons] at hN
    obtain ⟨ρ1, ρ2, h1, h2, h3⟩ := k i s ρ x (by omega) List.mem_cons_self h
    obtain ⟨ρ', h4, h5⟩ := for_st xs (i + 1) (step s x) ρ2 (by omega) h3 fun i s ρ y hi hy => k i s ρ y hi (List.mem_cons_of_mem _ hy)
    refine ⟨ρ', ?_, by rw [List.length_cons, show i + (xs.length + 1) = i + 1 + xs.length by omega]; exact h5⟩
    rw [List.map_cons, forGo, h1]
    show (match b ρ1 with
      | some (.nx ρ2) => forGo t b (xs.map f) ρ2
      | some (.ct ρ2) => forGo t b (xs.map f) ρ2
      | some (.bk ρ2) => some (.nx ρ2)
      | r => r) = _
    rw [h2]; exact h4
theorem v_forS {α σ : Type} {ρ : DEnv} {it : Lf} {t : Tg} {b sg : Sf} {f : α → Da} {xs : List α} (st : Nat → σ → DEnv → Prop) (step : σ → α → σ) (s0 : σ) {R : Option Fl → Prop} (hit : it ρ = some (xs.map f)) (h0 : st 0 s0 ρ)
    (k : ∀ i s ρ x, i < xs.length → x ∈ xs → st i s ρ → ∃ ρ1 ρ2, bindT t (f x) ρ = some ρ1 ∧ b ρ1 = some (.nx ρ2) ∧ st (i + 1) (step s x) ρ2)
    (h : ∀ ρ', st xs.length (xs.foldl step s0) ρ' → R (sg ρ')) : R (s_seq (s_for it t b) sg ρ) := by
  obtain ⟨ρ', h1, h2⟩ := for_st (N := xs.length) xs 0 s0 ρ (by omega) h0 k
  rw [Nat.zero_add] at h2
  have e : s_seq (s_for it t b) sg ρ = sg ρ' := by
    unfold s_seq s_for
    rw [hit]
    show (match forGo t b (xs.map f) ρ with
      | some (.nx ρ') => sg ρ'
      | r => r) = _
    rw [h1]
  rw [e]
  exact h ρ' h2
theorem v_for {ρ ρ' : DEnv} {it : Lf} {t : Tg} {b : Sf} {ds : List Da} (h : it ρ = some ds) (h2 : forGo t b ds ρ = some (.nx ρ')) : s_for it t b ρ = some (.nx ρ') := by unfold s_for; rw [h]; exact h2
theorem v_app {ρ : DEnv} {i : Nat} {f : Ef} {d : Da} {ds : List Da} (hi : ρ[i]? = some (.ow ds)) (h : f ρ = some d) (hz : ds.length < 16777216) : s_app i f ρ = some (.nx (ρ.set i (.ow (ds ++ [d])))) := by
  unfold s_app; rw [hi]
  show (match f ρ with
    | some d => if ds.length < sizeLine then some (Fl.nx (ρ.set i (.ow (ds ++ [d])))) else none
    | none => none) = _
  rw [h]
  show (if ds.length < sizeLine then _ else _) = _
  rw [if_pos (by rw [PySem.sizeLine_eq]; exact hz)]
theorem v_sortedo {ρ : DEnv} {i : Nat} {α : Type} [DecidableEq α] [DatO α] [Srt α] {xs : List α} (hi : ρ[i]? = some (.ow (xs.map enc))) : l_sortedo i ρ = some ((isort xs).map enc) := by
  unfold l_sortedo; rw [hi]
  show (if sortable (xs.map enc) = true then some (sortD (xs.map enc)) else none) = _
  rw [if_pos (sortable_enc xs), sortD_enc]
theorem v_reto {ρ : DEnv} {i : Nat} {ds : List Da} (hi : ρ[i]? = some (.ow ds)) : s_reto i ρ = some (.rt (.list ds) (ρ.set i (.im (.list ds)))) := by unfold s_reto; rw [hi]

/-! ### built-ins -/
theorem bools_enc : ∀ bs : List Bool, bools? (bs.map enc) = some bs
  | [] => rfl
  | b :: bs => by
    show (bools? (bs.map enc)).map _ = _
    rw [bools_enc bs]; rfl
theorem ints_enc : ∀ bs : List Int, ints? (bs.map enc) = some bs
  | [] => rfl
  | b :: bs => by
    show (ints? (bs.map enc)).map _ = _
    rw [ints_enc bs]; rfl
theorem w_all (bs : List Bool) : c_all [.list (bs.map enc)] = some (enc (bs.all id)) := by
  show (bools? _).map _ = _
  rw [bools_enc]; rfl
theorem w_any (bs : List Bool) : c_any [.list (bs.map enc)] = some (enc (bs.any id)) := by
  show (bools? _).map _ = _
  rw [bools_enc]; rfl
theorem w_sum (ns : List Int) : c_sum [.list (ns.map enc)] = some (enc ns.sum) := by
  show (ints? _).map _ = _
  rw [ints_enc]; rfl
section
variable {α : Type} [DecidableEq α] [Dat α]
theorem w_len (xs : List α) : c_len [enc xs] = some (enc (xs.length : Int)) := by
  show some (PyData.int ((xs.map enc).length : Int)) = _
  rw [List.length_map]; rfl
theorem w_list (xs : List α) : cl_list [enc xs] = some (xs.map enc) := rfl
theorem w_add (xs ys : List α) (h : xs.length + ys.length ≤ 16777216) : o_add (enc xs) (enc ys) = some (enc (xs ++ ys)) := by
  show (if (xs.map enc).length + (ys.map enc).length ≤ sizeLine then some (PyData.list (xs.map enc ++ ys.map enc)) else none) = _
  rw [if_pos (by rw [List.length_map, List.length_map, PySem.sizeLine_eq]; exact h), ← List.map_append]; rfl
end
theorem w_addI (i j : Int) : o_add (enc i) (enc j) = some (enc (i + j)) := rfl
theorem w_subI (i j : Int) : o_int p_sub (enc i) (enc j) = some (enc (i - j)) := rfl
theorem w_ixm (b : Bd) : o_ix (enc b) (enc (1 : Int)) = some (enc b.m) := rfl
theorem w_ixt (b : Bd) : o_ix (enc b) (enc (2 : Int)) = some (enc b.ts) := rfl
theorem w_ix0 (b : Bd) : o_ix (enc b) (enc (0 : Int)) = some (.str "complex") := rfl
section
variable {α : Type} [DecidableEq α] [Dat α]
theorem w_ix (xs : List α) (i : Int) (k : Nat) (hi : i = k) (h : k < xs.length) : o_ix (enc xs) (enc i) = some (enc xs[k]) := by
  show L2.atI (xs.map enc) i = _
  unfold L2.atI L2.ixN
  rw [List.length_map, if_pos (by omega), if_pos (by omega), hi]
  show (xs.map enc)[(k : Int).toNat]? = _
  rw [Int.toNat_natCast, List.getElem?_map, List.getElem?_eq_getElem h]; rfl
theorem w_cut (xs : List α) (lo hi : Option Int) : o_cut (enc xs) lo hi = some (enc (cutL xs lo hi)) := by
  show some (PyData.list (cutL (xs.map enc) lo hi)) = _
  unfold cutL
  rw [List.length_map, ← List.map_drop, ← List.map_take]; rfl
end
theorem v_range2 {ρ : DEnv} {l : Lf} {a b : Int} (h : l ρ = some [enc a, enc b]) (h1 : 0 ≤ a) (h2 : a ≤ 1000000) (h3 : 0 ≤ b) (h4 : b ≤ 1000000) : l_range2 l ρ = some ((List.range (b - a).toNat).map fun i => enc (a + (i : Nat))) := by
  unfold l_range2; rw [h]
  show (if (-(2 ^ 61) ≤ a ∧ a < 2 ^ 61 ∧ -(2 ^ 61) ≤ b ∧ b < 2 ^ 61) ∧ b - a ≤ (sizeLine : Int) then some (rangeD a (b - a).toNat) else none) = _
  rw [if_pos ⟨by omega, by rw [PySem.sizeLine_eq]; omega⟩]; rfl
theorem v_range1 {ρ : DEnv} {l : Lf} {b : Int} (h : l ρ = some [enc b]) (h4 : b ≤ 1000000) (h3 : -1000000 ≤ b) : l_range1 l ρ = some ((List.range b.toNat).map fun i => enc (0 + (i : Nat) : Int)) := by
  unfold l_range1; rw [h]
  show (if b ≤ (sizeLine : Int) ∧ -(2 ^ 62) ≤ b then some (rangeD 0 b.toNat) else none) = _
  rw [if_pos ⟨by rw [PySem.sizeLine_eq]; omega, by omega⟩]; rfl
theorem bind_pair {α β : Type} [DecidableEq α] [DecidableEq β] [Dat α] [Dat β] (i j : Nat) (p : α × β) (ρ : DEnv) : bindT (.tup [i, j]) (enc p) ρ = some ((ρ.set i (.im (enc p.1))).set j (.im (enc p.2))) := rfl
theorem one_le {d : Da} : [d].length ≤ 16777216 := by show 1 ≤ 16777216; decide
theorem v_cut {ρ : DEnv} {f : Ef} {l h : Pf} {d r : Da} {lo hi : Option Int} (h1 : f ρ = some d) (h2 : l ρ = some lo) (h3 : h ρ = some hi) (h4 : o_cut d lo hi = some r) : e_cut f l h ρ = some r := by unfold e_cut; rw [h1, Option.bind_some, h2, Option.bind_some, h3, Option.bind_some]; exact h4
theorem v_pat {ρ : DEnv} {f : Ef} {i : Int} (h : f ρ = some (enc i)) : p_at f ρ = some (some i) := by unfold p_at; rw [h]; rfl
theorem v_pno {ρ : DEnv} : p_no ρ = some none := rfl
section
variable {α : Type} [DecidableEq α] [Dat α]
theorem cut_to (xs : List α) (k : Nat) : cutL xs none (some (k : Int)) = xs.take k := by
  unfold cutL
  rw [HT.sIx_nat, HT.sIx_none, List.drop_zero, Nat.sub_zero]
  rcases Nat.le_total k xs.length with h | h
  · rw [Nat.min_eq_left h]
  · rw [Nat.min_eq_right h, List.take_length, List.take_of_length_le h]
theorem cut_from (xs : List α) (k : Nat) : cutL xs (some (k : Int)) none = xs.drop k := by
  unfold cutL
  rw [HT.sIx_nat, HT.sIx_none]
  rcases Nat.le_total k xs.length with h | h
  · rw [Nat.min_eq_left h, List.take_of_length_le (by rw [List.length_drop]; exact Nat.le_refl _)]
  · rw [Nat.min_eq_right h, List.drop_length, List.drop_eq_nil_of_le h]; simp
/-- enumerate -/
def enumI : Int → List α → List (Int × α)
  | _, [] => []
  | n, x :: xs => (n, x) :: enumI (n + 1) xs
theorem enum_enc : ∀ (xs : List α) (n : Nat), enumD n (xs.map enc) = (enumI (n : Int) xs).map enc
  | [], _ => rfl
  | x :: xs, n => by
    rw [List.map_cons, enumD, enum_enc xs (n + 1)]
    show _ = enc ((n : Int), x) :: (enumI ((n : Int) + 1) xs).map enc
    rw [Int.natCast_succ]; rfl
theorem mem_enumI : ∀ {xs : List α} {n : Nat} {p : Int × α}, p ∈ enumI (n : Int) xs → ∃ k, ∃ h : k < xs.length, p = (((n + k : Nat) : Int), xs[k])
  | [], _, _, h => by cases h
  | x :: xs, n, p, h => by
    rcases List.mem_cons.mp h with e | e
    · exact ⟨0, by simp, by rw [e]; rfl⟩
    · rw [← Int.natCast_succ] at e
      obtain ⟨k, hk, rfl⟩ := mem_enumI e
      exact ⟨k + 1, Nat.succ_lt_succ hk, by simp only [List.getElem_cons_succ, Prod.mk.injEq, and_true]; omega⟩
theorem enumI_len : ∀ (xs : List α) (n : Int), (enumI n xs).length = xs.length
  | [], _ => rfl
  | x :: xs, n => by rw [enumI, List.length_cons, enumI_len xs, List.length_cons]
end
theorem v_enum {α : Type} [DecidableEq α] [Dat α] {ρ : DEnv} {l : Lf} {xs : List α} (h : l ρ = some [enc xs]) : l_enum l ρ = some ((enumI 0 xs).map enc) := by
  unfold l_enum; rw [h]
  show some (enumD 0 (xs.map enc)) = _
  rw [enum_enc]; rfl
theorem ev_ne_str (x : Str) (h : SeqAt.shaped (.str x) = true) : o_ne (.str x) (.str x) = some (enc false) := by
  unfold o_ne okD
  rw [h, eqv_str]; rfl
theorem cx_shaped : SeqAt.shaped (.str "complex") = true := by decide +kernel
end MM
end

section
set_option Elab.async false
set_option linter.all false
set_option maxRecDepth 100000
set_option maxHeartbeats 2000000
/-! Plain: orders, sorted lists, lots of points. -/
namespace MM
open PySem DD
open Dat (enc)

/-! ### strict orders -/
class Ord (α : Type) [DecidableEq α] [DatO α] : Prop where
  irr : ∀ a : α, DatO.lt a a = false
  tr : ∀ a b c : α, DatO.lt a b = true → DatO.lt b c = true → DatO.lt a c = true
  tri : ∀ a b : α, DatO.lt a b = true ∨ a = b ∨ DatO.lt b a = true
instance : Ord Int where
  irr a := by show decide (a < a) = false; simp
  tr a b c h1 h2 := by
    have h1 : a < b := of_decide_eq_true h1
    have h2 : b < c := of_decide_eq_true h2
    exact decide_eq_true (Int.lt_trans h1 h2)
  tri a b := by
    rcases Int.lt_trichotomy a b with h | h | h
    · exact .inl (decide_eq_true h)
    · exact .inr (.inl h)
    · exact .inr (.inr (decide_eq_true h))
section
variable {α β : Type} [DecidableEq α] [DecidableEq β] [DatO α] [DatO β] [Ord α] [Ord β]
theorem lexL_cons (x y : α) (xs ys : List α) : lexL (x :: xs) (y :: ys) = if x = y then lexL xs ys else DatO.lt x y := rfl
theorem lexL_irr : ∀ a : List α, lexL a a = false
  | [] => rfl
  | x :: xs => by rw [lexL_cons, if_pos rfl]; exact lexL_irr xs
theorem lexL_tr : ∀ a b c : List α, lexL a b = true → lexL b c = true → lexL a c = true
  | [], [], _, h, _ => by cases h
  | [], _ :: _, [], _, h => by cases h
  | [], _ :: _, _ :: _, _, _ => rfl
  | _ :: _, [], _, h, _ => by cases h
  | _ :: _, _ :: _, [], _, h => by cases h
  | x :: xs, y :: ys, z :: zs, h1, h2 => by
    rw [lexL_cons] at h1 h2 ⊢
    by_cases e : x = y
    · subst e
      rw [if_pos rfl] at h1
      by_cases g : x = z
      · rw [if_pos g] at h2 ⊢
        exact lexL_tr xs ys zs h1 h2
      · rw [if_neg g] at h2 ⊢; exact h2
    · rw [if_neg e] at h1
      by_cases g : y = z
      · subst g
        rw [if_neg e]; exact h1
      · rw [if_neg g] at h2
        have t := Ord.tr x y z h1 h2
        by_cases k : x = z
        · subst k
          rw [Ord.irr] at t; cases t
        · rw [if_neg k]; exact t
theorem lexL_tri : ∀ a b : List α, lexL a b = true ∨ a = b ∨ lexL b a = true
  | [], [] => .inr (.inl rfl)
  | [], _ :: _ => .inl rfl
  | _ :: _, [] => .inr (.inr rfl)
  | x :: xs, y :: ys => by
    rw [lexL_cons, lexL_cons]
    by_cases e : x = y
    · subst e
      rw [if_pos rfl, if_pos rfl]
      rcases lexL_tri xs ys with h | h | h
      · exact .inl h
      · exact .inr (.inl (by rw [h]))
      · exact .inr (.inr h)
    · rw [if_neg e, if_neg (Ne.symm e)]
      rcases Ord.tri x y with h | h | h
      · exact .inl h
      · exact absurd h e
      · exact .inr (.inr h)
instance : Ord (List α) := ⟨lexL_irr, lexL_tr, lexL_tri⟩
instance : Ord (α × β) where
  irr a := by show lexP a a = false; simp [lexP]
  tr a b c h1 h2 := by
    obtain ⟨a1, a2⟩ := a
    obtain ⟨b1, b2⟩ := b
    obtain ⟨c1, c2⟩ := c
    have h1 : (if a1 = b1 then (if a2 = b2 then false else DatO.lt a2 b2) else DatO.lt a1 b1) = true := h1
    have h2 : (if b1 = c1 then (if b2 = c2 then false else DatO.lt b2 c2) else DatO.lt b1 c1) = true := h2
    show (if a1 = c1 then (if a2 = c2 then false else DatO.lt a2 c2) else DatO.lt a1 c1) = true
    by_cases e : a1 = b1
    · subst e
      rw [if_pos rfl] at h1
      by_cases g : a1 = c1
      · subst g
        rw [if_pos rfl] at h2 ⊢
        split at h1
        · cases h1
        · split at h2
          · cases h2
          · have t := Ord.tr a2 b2 c2 h1 h2
            split
            · rename_i k; subst k
              rw [Ord.irr] at t; cases t
            · exact t
      · rw [if_neg g] at h2 ⊢; exact h2
    · rw [if_neg e] at h1
      by_cases g : b1 = c1
      · subst g
        rw [if_neg e]; exact h1
      · rw [if_neg g] at h2
        have t := Ord.tr a1 b1 c1 h1 h2
        by_cases k : a1 = c1
        · subst k
          rw [Ord.irr] at t; cases t
        · rw [if_neg k]; exact t
  tri a b := by
    obtain ⟨a1, a2⟩ := a
    obtain ⟨b1, b2⟩ := b
    show (if a1 = b1 then (if a2 = b2 then false else DatO.lt a2 b2) else DatO.lt a1 b1) = true ∨ _ ∨ (if b1 = a1 then (if b2 = a2 then false else DatO.lt b2 a2) else DatO.lt b1 a1) = true
    by_cases e : a1 = b1
    · subst e
      rw [if_pos rfl, if_pos rfl]
      by_cases g : a2 = b2
      · subst g
        exact .inr (.inl rfl)
      · rw [if_neg g, if_neg (Ne.symm g)]
        rcases Ord.tri a2 b2 with h | h | h
        · exact .inl h
        · exact absurd h g
        · exact .inr (.inr h)
    · rw [if_neg e, if_neg (Ne.symm e)]
      rcases Ord.tri a1 b1 with h | h | h
      · exact .inl h
      · exact absurd h e
      · exact .inr (.inr h)
theorem lt_asym {a b : α} (h : DatO.lt a b = true) : DatO.lt b a = false := by
  cases g : DatO.lt b a with
  | false => rfl
  | true =>
    have t := Ord.tr a b a h g
    rw [Ord.irr] at t; cases t

/-! ### sorted lists -/
abbrev Asc (xs : List α) : Prop := xs.Pairwise fun a b => DatO.lt a b = true
theorem ins_perm (x : α) : ∀ l : List α, (ins x l).Perm (x :: l)
  | [] => .refl _
  | y :: r => by
    unfold ins
    split
    · exact ((ins_perm x r).cons y).trans (List.Perm.swap _ _ _)
    · exact .refl _
theorem isort_perm : ∀ l : List α, (isort l).Perm l
  | [] => .refl _
  | x :: r => (ins_perm x _).trans ((isort_perm r).cons x)
theorem mem_isort {x : α} {l : List α} : x ∈ isort l ↔ x ∈ l := (isort_perm l).mem_iff
theorem isort_len (l : List α) : (isort l).length = l.length := (isort_perm l).length_eq
theorem ins_asc (x : α) : ∀ l : List α, x ∉ l → Asc l → Asc (ins x l)
  | [], _, _ => by unfold ins; exact List.pairwise_singleton _ _
  | y :: r, hn, h => by
    have hxy : x ≠ y := fun e => hn (by rw [e]; exact List.mem_cons_self)
    have hr := List.pairwise_cons.mp h
    unfold ins
    split
    · rename_i hlt
      refine List.pairwise_cons.mpr ⟨fun z hz => ?_, ins_asc x r (fun z => hn (List.mem_cons_of_mem _ z)) hr.2⟩
      rcases List.mem_cons.mp ((ins_perm x r).mem_iff.mp hz) with e | e
      · rw [e]; exact hlt
      · exact hr.1 z e
    · rename_i hnl
      have hxl : DatO.lt x y = true := by
        rcases Ord.tri x y with q | q | q
        · exact q
        · exact absurd q hxy
        · exact absurd q hnl
      refine List.pairwise_cons.mpr ⟨fun z hz => ?_, h⟩
      rcases List.mem_cons.mp hz with e | e
      · rw [e]; exact hxl
      · exact Ord.tr x y z hxl (hr.1 z e)
theorem isort_asc : ∀ l : List α, l.Nodup → Asc (isort l)
  | [], _ => List.Pairwise.nil
  | x :: r, h => by
    have h' := List.nodup_cons.mp h
    exact ins_asc x _ (fun z => h'.1 (mem_isort.mp z)) (isort_asc r h'.2)
theorem asc_nodup {l : List α} (h : Asc l) : l.Nodup := h.imp fun {a b} q e => by
  subst e
  rw [Ord.irr] at q; cases q
/-- ascending lists of the same members are one list -/
theorem asc_ext : ∀ {l m : List α}, Asc l → Asc m → (∀ x, x ∈ l ↔ x ∈ m) → l = m
  | [], [], _, _, _ => rfl
  | [], y :: m, _, _, h => by cases (h y).mpr List.mem_cons_self
  | x :: l, [], _, _, h => by cases (h x).mp List.mem_cons_self
  | x :: l, y :: m, h1, h2, h => by
    have a1 := List.pairwise_cons.mp h1
    have a2 := List.pairwise_cons.mp h2
    have e : x = y := by
      rcases List.mem_cons.mp ((h x).mp List.mem_cons_self) with e | e
      · exact e
      · rcases List.mem_cons.mp ((h y).mpr List.mem_cons_self) with e2 | e2
        · exact e2.symm
        · have t := lt_asym (a2.1 x e)
          rw [a1.1 y e2] at t; cases t
    subst e
    congr 1
    refine asc_ext a1.2 a2.2 fun z => ⟨fun hz => ?_, fun hz => ?_⟩
    · rcases List.mem_cons.mp ((h z).mp (List.mem_cons_of_mem _ hz)) with e | e
      · have t := a1.1 z hz
        rw [e, Ord.irr] at t; cases t
      · exact e
    · rcases List.mem_cons.mp ((h z).mpr (List.mem_cons_of_mem _ hz)) with e | e
      · have t := a2.1 z hz
        rw [e, Ord.irr] at t; cases t
      · exact e
theorem isort_id {l : List α} (h : Asc l) : isort l = l := asc_ext (isort_asc l (asc_nodup h)) h fun _ => mem_isort
end

/-! ### lots -/
abbrev Lot := List Int
/-- an ascending list of points below m -/
structure IsLot (m : Int) (l : Lot) : Prop where
  asc : l.Pairwise (· < ·)
  rng : ∀ x ∈ l, 0 ≤ x ∧ x < m
/-- within -/
def sub (a b : Lot) : Bool := a.all fun x => memB x b
theorem sub_iff {a b : Lot} : sub a b = true ↔ ∀ x ∈ a, x ∈ b := by
  unfold sub
  rw [List.all_eq_true]
  exact ⟨fun h x hx => memB_iff.mp (h x hx), fun h x hx => memB_iff.mpr (h x hx)⟩
theorem sub_refl (a : Lot) : sub a a = true := sub_iff.mpr fun _ h => h
theorem sub_trans {a b c : Lot} (h : sub a b = true) (g : sub b c = true) : sub a c = true := sub_iff.mpr fun x hx => sub_iff.mp g x (sub_iff.mp h x hx)
theorem ascInt {l : Lot} (h : l.Pairwise (· < ·)) : Asc l := h.imp fun {a b} q => decide_eq_true q
theorem sub_anti {a b : Lot} (ha : a.Pairwise (· < ·)) (hb : b.Pairwise (· < ·)) (h : sub a b = true) (g : sub b a = true) : a = b :=
  asc_ext (ascInt ha) (ascInt hb) fun x => ⟨sub_iff.mp h x, sub_iff.mp g x⟩
/-- all lots of m points, as they are made -/
def raw : Nat → List Lot
  | 0 => [[]]
  | n + 1 => raw n ++ (raw n).map fun l => l ++ [(n : Int)]
theorem raw_len : ∀ n, (raw n).length = 2 ^ n
  | 0 => rfl
  | n + 1 => by
    rw [raw, List.length_append, List.length_map, raw_len n, Nat.pow_succ]; omega
theorem pair_snoc {l : Lot} {x : Int} : (l ++ [x]).Pairwise (· < ·) ↔ l.Pairwise (· < ·) ∧ ∀ y ∈ l, y < x := by
  rw [List.pairwise_append]
  constructor
  · rintro ⟨h1, _, h3⟩
    exact ⟨h1, fun y hy => h3 y hy x (List.mem_singleton.mpr rfl)⟩
  · rintro ⟨h1, h2⟩
    exact ⟨h1, List.pairwise_singleton _ _, fun y hy z hz => by rw [List.mem_singleton.mp hz]; exact h2 y hy⟩
theorem mem_raw : ∀ (n : Nat) (l : Lot), l ∈ raw n ↔ IsLot (n : Int) l
  | 0, l => by
    constructor
    · intro h
      rw [List.mem_singleton.mp h]
      exact ⟨List.Pairwise.nil, fun x hx => by cases hx⟩
    · intro h
      cases l with
      | nil => exact List.mem_singleton.mpr rfl
      | cons x l =>
        have := h.rng x List.mem_cons_self
        omega
  | n + 1, l => by
    rw [raw, List.mem_append, List.mem_map, mem_raw n l]
    constructor
    · rintro (h | ⟨k, hk, rfl⟩)
      · exact ⟨h.asc, fun x hx => by have := h.rng x hx; omega⟩
      · have hk := (mem_raw n k).mp hk
        refine ⟨pair_snoc.mpr ⟨hk.asc, fun y hy => (hk.rng y hy).2⟩, fun x hx => ?_⟩
        rcases List.mem_append.mp hx with h | h
        · have := hk.rng x h; omega
        · rw [List.mem_singleton.mp h]; omega
    · intro h
      by_cases hn : (n : Int) ∈ l
      · right
        -- n is the last one
        have hl : l ≠ [] := fun e => by rw [e] at hn; cases hn
        have e := List.dropLast_concat_getLast hl
        generalize hk : l.dropLast = k at e
        generalize hx : l.getLast hl = x at e
        subst e
        have hp := pair_snoc.mp h.asc
        have hxn : x = n := by
          have h1 := h.rng x (by simp)
          rcases List.mem_append.mp hn with q | q
          · have := hp.2 _ q; omega
          · exact (List.mem_singleton.mp q).symm
        refine ⟨k, (mem_raw n k).mpr ⟨hp.1, fun y hy => ?_⟩, by rw [hxn]⟩
        have h1 := h.rng y (List.mem_append_left _ hy)
        have h2 := hp.2 y hy
        omega
      · left
        refine ⟨h.asc, fun x hx => ?_⟩
        have h1 := h.rng x hx
        have : x ≠ n := fun e => hn (by rw [← e]; exact hx)
        omega
theorem raw_nodup : ∀ n, (raw n).Nodup
  | 0 => by simp [raw]
  | n + 1 => by
    rw [raw, List.nodup_append]
    refine ⟨raw_nodup n, ?_, fun a ha b hb => ?_⟩
    · refine (List.pairwise_map.mpr ?_)
      exact (raw_nodup n).imp fun {a b} h e => h (List.append_inj_left' e rfl)
    · rintro rfl
      obtain ⟨k, hk, rfl⟩ := List.mem_map.mp hb
      have := ((mem_raw n _).mp ha).rng (n : Int) (by simp)
      omega
/-- all lots of m points, smaller ones first, then in order -/
def lots (n : Nat) : List Lot := (isort ((raw n).map fun l => ((l.length : Int), l))).map (·.2)
theorem mem_lots {n : Nat} {l : Lot} : l ∈ lots n ↔ IsLot (n : Int) l := by
  unfold lots
  rw [← mem_raw, List.mem_map]
  constructor
  · rintro ⟨p, hp, rfl⟩
    obtain ⟨k, hk, rfl⟩ := List.mem_map.mp (mem_isort.mp hp)
    exact hk
  · intro h
    exact ⟨(_, l), mem_isort.mpr (List.mem_map.mpr ⟨l, h, rfl⟩), rfl⟩
theorem lots_asc (n : Nat) : (lots n).Pairwise fun a b => DatO.lt ((a.length : Int), a) ((b.length : Int), b) = true := by
  unfold lots
  rw [List.pairwise_map]
  have h : Asc (isort ((raw n).map fun l => ((l.length : Int), l))) := isort_asc _ (List.pairwise_map.mpr ((raw_nodup n).imp fun {a b} h e => h (by injection e)))
  have hm : ∀ p ∈ isort ((raw n).map fun l => ((l.length : Int), l)), p = ((p.2.length : Int), p.2) := fun p hp => by
    obtain ⟨k, hk, rfl⟩ := List.mem_map.mp (mem_isort.mp hp)
    rfl
  exact List.Pairwise.imp_of_mem (fun {a b} ha hb q => by rw [← hm a ha, ← hm b hb]; exact q) h
theorem lots_nodup (n : Nat) : (lots n).Nodup := (lots_asc n).imp fun {a b} q e => by
  subst e
  rw [Ord.irr] at q; cases q
theorem lots_len (n : Nat) : (lots n).length = 2 ^ n := by
  unfold lots
  rw [List.length_map, isort_len, List.length_map, raw_len]
end MM
end

section
set_option Elab.async false
set_option linter.all false
set_option maxRecDepth 100000
set_option maxHeartbeats 2000000
/-! Plain: complexes: what a complex is, told by its faces. -/
namespace MM
open PySem DD
open Dat (enc)

/-- a lot that isn't empty within one of them -/
def face (ts : List Lot) (l : Lot) : Bool := decide (l ≠ []) && ts.any fun t => sub l t
theorem face_iff {ts : List Lot} {l : Lot} : face ts l = true ↔ l ≠ [] ∧ ∃ t ∈ ts, sub l t = true := by
  unfold face
  simp only [Bool.and_eq_true, decide_eq_true_eq, List.any_eq_true]
theorem face_sub {ts : List Lot} {k l : Lot} (h : face ts l = true) (hk : k ≠ []) (s : sub k l = true) : face ts k = true := by
  obtain ⟨_, t, ht, q⟩ := face_iff.mp h
  exact face_iff.mpr ⟨hk, t, ht, sub_trans s q⟩
structure Tops (m : Int) (ts : List Lot) : Prop where
  lot : ∀ t ∈ ts, IsLot m t
  ne : ∀ t ∈ ts, t ≠ []
  asc : Asc ts
  anti : ∀ t ∈ ts, ∀ u ∈ ts, sub t u = true → t = u
theorem asc_sublist : ∀ (b a : Lot), a.Pairwise (· < ·) → b.Pairwise (· < ·) → (∀ x ∈ a, x ∈ b) → a.Sublist b := by
  intro b
  induction b with
  | nil =>
    intro a _ _ h
    cases a with
    | nil => exact List.Sublist.slnil
    | cons x a => cases h x List.mem_cons_self
  | cons y b ih =>
    intro a ha hb h
    have hb' := List.pairwise_cons.mp hb
    cases a with
    | nil => exact List.nil_sublist _
    | cons x a =>
      have ha' := List.pairwise_cons.mp ha
      rcases List.mem_cons.mp (h x List.mem_cons_self) with e | e
      · subst e
        refine List.Sublist.cons₂ _ (ih a ha'.2 hb'.2 fun z hz => ?_)
        rcases List.mem_cons.mp (h z (List.mem_cons_of_mem _ hz)) with q | q
        · have := ha'.1 z hz; omega
        · exact q
      · refine List.Sublist.cons _ (ih (x :: a) ha hb'.2 fun z hz => ?_)
        rcases List.mem_cons.mp (h z hz) with q | q
        · have h1 := hb'.1 x e
          rcases List.mem_cons.mp hz with q2 | q2
          · omega
          · have := ha'.1 z q2; omega
        · exact q
theorem sub_sublist {a b : Lot} (ha : a.Pairwise (· < ·)) (hb : b.Pairwise (· < ·)) (h : sub a b = true) : a.Sublist b := asc_sublist b a ha hb (sub_iff.mp h)
/-- within a lot of the same size: the same -/
theorem sub_len {a b : Lot} (ha : a.Pairwise (· < ·)) (hb : b.Pairwise (· < ·)) (h : sub a b = true) : a.length ≤ b.length := (sub_sublist ha hb h).length_le
theorem sub_eq {a b : Lot} (ha : a.Pairwise (· < ·)) (hb : b.Pairwise (· < ·)) (h : sub a b = true) (hl : b.length ≤ a.length) : a = b := (sub_sublist ha hb h).eq_of_length_le hl
/-- all points -/
def pts (n : Nat) : Lot := (List.range n).map fun i : Nat => (i : Int)
theorem pts_len (n : Nat) : (pts n).length = n := by simp [pts]
theorem mem_pts {n : Nat} {x : Int} : x ∈ pts n ↔ 0 ≤ x ∧ x < n := by
  unfold pts
  rw [List.mem_map]
  constructor
  · rintro ⟨i, hi, rfl⟩
    have := List.mem_range.mp hi
    omega
  · rintro ⟨h1, h2⟩
    obtain ⟨k, rfl⟩ := Int.eq_ofNat_of_zero_le h1
    exact ⟨k, List.mem_range.mpr (by omega), rfl⟩
theorem pts_asc (n : Nat) : (pts n).Pairwise (· < ·) := by
  unfold pts
  rw [List.pairwise_map]
  exact List.pairwise_lt_range.imp fun {a b} h => by omega
theorem pts_lot (n : Nat) : IsLot (n : Int) (pts n) := ⟨pts_asc n, fun x hx => mem_pts.mp hx⟩
theorem IsLot.len' {n : Nat} {l : Lot} (h : IsLot (n : Int) l) : l.length ≤ n := by
  have := (asc_sublist (pts n) l h.asc (pts_asc n) fun x hx => mem_pts.mpr (h.rng x hx)).length_le
  rwa [pts_len] at this

/-! ### the lots that lie within no other one, each once -/
def mxOk (ls : List Lot) (l : Lot) : Bool := decide (l ≠ []) && !(ls.any fun o => decide (l ≠ o) && sub l o)
def mxStep (ls f : List Lot) (l : Lot) : List Lot := if (decide (l ≠ []) && (!memB l f && !(ls.any fun o => decide (l ≠ o) && sub l o))) = true then f ++ [l] else f
def mx (ls : List Lot) : List Lot := ls.foldl (mxStep ls) []
theorem mxStep_len (ls f : List Lot) (l : Lot) : (mxStep ls f l).length ≤ f.length + 1 := by
  unfold mxStep
  split
  · simp
  · omega
theorem mxOk_iff {ls : List Lot} {l : Lot} : mxOk ls l = true ↔ l ≠ [] ∧ ∀ o ∈ ls, sub l o = true → l = o := by
  unfold mxOk
  simp only [Bool.and_eq_true, decide_eq_true_eq, Bool.not_eq_true', List.any_eq_false, not_and]
  constructor
  · rintro ⟨h1, h2⟩
    exact ⟨h1, fun o ho hs => Classical.byContradiction fun hne => h2 o ho hne hs⟩
  · rintro ⟨h1, h2⟩
    exact ⟨h1, fun o ho hne hs => hne (h2 o ho hs)⟩
theorem mx_fold (ls : List Lot) : ∀ (xs f : List Lot), f.Nodup → (xs.foldl (mxStep ls) f).Nodup ∧ ∀ t, t ∈ xs.foldl (mxStep ls) f ↔ t ∈ f ∨ (t ∈ xs ∧ mxOk ls t = true)
  | [], f, h => ⟨h, fun t => ⟨.inl, fun q => q.elim id fun q => by cases q.1⟩⟩
  | x :: xs, f, h => by
    have hstep : (mxStep ls f x).Nodup ∧ ∀ t, t ∈ mxStep ls f x ↔ t ∈ f ∨ (t = x ∧ mxOk ls t = true) := by
      unfold mxStep mxOk
      split
      · rename_i hc
        simp only [Bool.and_eq_true, Bool.not_eq_true', decide_eq_true_eq] at hc
        obtain ⟨c1, c2, c3⟩ := hc
        have hx : x ∉ f := fun q => by rw [memB_iff.mpr q] at c2; cases c2
        refine ⟨?_, fun t => ?_⟩
        · rw [List.nodup_append]
          refine ⟨h, by simp, fun a ha b hb => ?_⟩
          rw [List.mem_singleton.mp hb]
          exact fun e => hx (by rw [← e]; exact ha)
        · rw [List.mem_append, List.mem_singleton]
          constructor
          · rintro (q | q)
            · exact .inl q
            · refine .inr ⟨q, ?_⟩
              subst q
              simp only [Bool.and_eq_true, Bool.not_eq_true', decide_eq_true_eq]
              exact ⟨c1, c3⟩
          · rintro (q | q)
            · exact .inl q
            · exact .inr q.1
      · rename_i hc
        refine ⟨h, fun t => ⟨.inl, ?_⟩⟩
        rintro (q | ⟨rfl, q⟩)
        · exact q
        · simp only [Bool.and_eq_true, Bool.not_eq_true', decide_eq_true_eq] at hc q
          refine Classical.byContradiction fun hn => hc ⟨q.1, ?_, q.2⟩
          cases hb : memB t f with
          | false => rfl
          | true => exact absurd (memB_iff.mp hb) hn
    have ih := mx_fold ls xs (mxStep ls f x) hstep.1
    refine ⟨ih.1, fun t => ?_⟩
    rw [List.foldl_cons, ih.2 t, hstep.2 t, List.mem_cons]
    constructor
    · rintro ((q | ⟨q, r⟩) | ⟨q, r⟩)
      · exact .inl q
      · exact .inr ⟨.inl q, r⟩
      · exact .inr ⟨.inr q, r⟩
    · rintro (q | ⟨q | q, r⟩)
      · exact .inl (.inl q)
      · exact .inl (.inr ⟨q, r⟩)
      · exact .inr ⟨q, r⟩
theorem mx_nodup (ls : List Lot) : (mx ls).Nodup := (mx_fold ls ls [] List.nodup_nil).1
theorem mem_mx {ls : List Lot} {t : Lot} : t ∈ mx ls ↔ t ∈ ls ∧ t ≠ [] ∧ ∀ o ∈ ls, sub t o = true → t = o := by
  unfold mx
  rw [(mx_fold ls ls [] List.nodup_nil).2 t, mxOk_iff]
  simp
/-- the complex of some lots: its tops -/
def topsOf (ls : List Lot) : List Lot := isort (mx ls)
theorem mem_topsOf {ls : List Lot} {t : Lot} : t ∈ topsOf ls ↔ t ∈ ls ∧ t ≠ [] ∧ ∀ o ∈ ls, sub t o = true → t = o := by
  unfold topsOf
  rw [mem_isort, mem_mx]
theorem tops_topsOf {m : Int} {ls : List Lot} (h : ∀ l ∈ ls, IsLot m l) : Tops m (topsOf ls) where
  lot t ht := h t (mem_topsOf.mp ht).1
  ne t ht := (mem_topsOf.mp ht).2.1
  asc := isort_asc _ (mx_nodup ls)
  anti t ht u hu s := (mem_topsOf.mp ht).2.2 u (mem_topsOf.mp hu).1 s
/-- each lies within a greatest one -/
theorem up_max {n : Nat} {ls : List Lot} (h : ∀ l ∈ ls, IsLot (n : Int) l) : ∀ (k : Nat) (l : Lot), l ∈ ls → n - l.length ≤ k → ∃ t ∈ ls, sub l t = true ∧ ∀ o ∈ ls, sub t o = true → t = o := by
  intro k
  induction k with
  | zero =>
    intro l hl hk
    refine ⟨l, hl, sub_refl l, fun o ho s => ?_⟩
    have h1 := (h l hl).len'
    have h2 := (h o ho).len'
    exact sub_eq (h l hl).asc (h o ho).asc s (by omega)
  | succ k ih =>
    intro l hl hk
    by_cases hm : ∀ o ∈ ls, sub l o = true → l = o
    · exact ⟨l, hl, sub_refl l, hm⟩
    · have : ∃ o, o ∈ ls ∧ sub l o = true ∧ l ≠ o := Classical.byContradiction fun q => hm fun o ho s => Classical.byContradiction fun e => q ⟨o, ho, s, e⟩
      obtain ⟨o, ho, s, hne⟩ := this
      have hlt : l.length < o.length := by
        refine Classical.byContradiction fun q => hne (sub_eq (h l hl).asc (h o ho).asc s (by omega))
      obtain ⟨t, ht, s2, hmx⟩ := ih o ho (by have := (h o ho).len'; omega)
      exact ⟨t, ht, sub_trans s s2, hmx⟩
theorem face_topsOf {n : Nat} {ls : List Lot} (h : ∀ l ∈ ls, IsLot (n : Int) l) (l : Lot) : face (topsOf ls) l = face ls l := by
  rw [Bool.eq_iff_iff, face_iff, face_iff]
  constructor
  · rintro ⟨h1, t, ht, s⟩
    exact ⟨h1, t, (mem_topsOf.mp ht).1, s⟩
  · rintro ⟨h1, o, ho, s⟩
    obtain ⟨t, ht, s2, hm⟩ := up_max h _ o ho (Nat.le_refl _)
    refine ⟨h1, t, mem_topsOf.mpr ⟨ht, fun e => ?_, hm⟩, sub_trans s s2⟩
    subst e
    cases l with
    | nil => exact h1 rfl
    | cons x l => cases sub_iff.mp (sub_trans s s2) x List.mem_cons_self
/-- a complex is told by its faces -/
theorem tops_ext {m : Int} {ts us : List Lot} (h : Tops m ts) (g : Tops m us) (e : ∀ l, IsLot m l → face ts l = face us l) : ts = us := by
  have key : ∀ {ts us : List Lot}, Tops m ts → Tops m us → (∀ l, IsLot m l → face ts l = face us l) → ∀ t ∈ ts, t ∈ us := by
    intro ts us h g e t ht
    have f1 : face ts t = true := face_iff.mpr ⟨h.ne t ht, t, ht, sub_refl t⟩
    rw [e t (h.lot t ht)] at f1
    obtain ⟨_, u, hu, s⟩ := face_iff.mp f1
    have f2 : face us u = true := face_iff.mpr ⟨g.ne u hu, u, hu, sub_refl u⟩
    rw [← e u (g.lot u hu)] at f2
    obtain ⟨_, v, hv, s2⟩ := face_iff.mp f2
    have e1 := h.anti t ht v hv (sub_trans s s2)
    subst e1
    rw [sub_anti (h.lot t ht).asc (g.lot u hu).asc s s2]
    exact hu
  exact asc_ext h.asc g.asc fun t => ⟨key h g e t, key g h (fun l hl => (e l hl).symm) t⟩
theorem topsOf_tops {n : Nat} {ts : List Lot} (h : Tops (n : Int) ts) : topsOf ts = ts := tops_ext (tops_topsOf h.lot) h fun l _ => face_topsOf h.lot l
end MM
end

section
set_option Elab.async false
set_option linter.all false
set_option maxRecDepth 100000
set_option maxHeartbeats 2000000
/-! Plain: what the expressions and statements that draw answer. -/
namespace MM
open PySem DD
open Dat (enc)

section
variable {α β : Type} {ρ ρ1 ρ2 ρ3 : DEnv} {f g : Xf Da} {l : Xf (List Da)} {d e r : Da} {ds es : List Da} {b c : Bool}
theorem x_ofE {f : DEnv → Option α} {a : α} (h : f ρ = some a) : x_of f ρ = some (.ok a ρ) := by unfold x_of; rw [h]; rfl
theorem bindE {f : Xf α} {g : α → Xf β} {a : α} {q : Option (Ro β)} (h : f ρ = some (.ok a ρ1)) (h2 : g a ρ1 = q) : bindX f g ρ = q := by unfold bindX; rw [h]; exact h2
theorem retE {a : α} : retX (some a) ρ = some (.ok a ρ) := rfl
theorem x_binE {o : Da → Da → Option Da} (h : f ρ = some (.ok d ρ1)) (h2 : g ρ1 = some (.ok e ρ2)) (h3 : o d e = some r) : x_bin o f g ρ = some (.ok r ρ2) := bindE h (bindE h2 (by rw [h3]; rfl))
theorem x_consE (h : f ρ = some (.ok d ρ1)) (h2 : l ρ1 = some (.ok ds ρ2)) : xa_cons f l ρ = some (.ok (d :: ds) ρ2) := bindE h (bindE h2 rfl)
theorem x_notE (h : f ρ = some (.ok (enc b) ρ1)) : x_not f ρ = some (.ok (enc (!b)) ρ1) := bindE h rfl
theorem xt_notE {t : Xf Bool} (h : t ρ = some (.ok b ρ1)) : xt_not t ρ = some (.ok (!b) ρ1) := bindE h rfl
theorem xt_valE (h : f ρ = some (.ok (enc b) ρ1)) : xt_val f ρ = some (.ok b ρ1) := bindE h rfl
theorem xt_boolE (h : f ρ = some (.ok (enc b) ρ1)) : xt_bool f ρ = some (.ok b ρ1) := bindE h rfl
theorem xt_orE {t u : Xf Bool} (h : t ρ = some (.ok false ρ1)) (h2 : u ρ1 = some (.ok c ρ2)) : xt_or t u ρ = some (.ok c ρ2) := bindE h (by rw [if_neg Bool.false_ne_true]; exact h2)
theorem xt_andE {t u : Xf Bool} (h : t ρ = some (.ok true ρ1)) (h2 : u ρ1 = some (.ok c ρ2)) : xt_and t u ρ = some (.ok c ρ2) := bindE h (by rw [if_pos rfl]; exact h2)
theorem x_andE (h : f ρ = some (.ok (enc true) ρ1)) (h2 : g ρ1 = some (.ok d ρ2)) : x_and f g ρ = some (.ok d ρ2) := bindE h h2
theorem x_lstE (h : l ρ = some (.ok ds ρ1)) (hz : ds.length ≤ 16777216) : x_lst l ρ = some (.ok (.list ds) ρ1) := bindE h (by rw [if_pos (by rw [PySem.sizeLine_eq]; exact hz)]; rfl)
theorem x_tupE (h : l ρ = some (.ok ds ρ1)) (hz : ds.length ≤ 16777216) : x_tup l ρ = some (.ok (.tuple ds) ρ1) := bindE h (by rw [if_pos (by rw [PySem.sizeLine_eq]; exact hz)]; rfl)
theorem x_newE {l : Xf (List Da)} (h : l ρ = some (.ok ds ρ1)) : x_new l ρ = some (.ok (.list ds) ρ1) := bindE h rfl
theorem xl_callE {o : List Da → Option (List Da)} (h : l ρ = some (.ok ds ρ1)) (h2 : o ds = some es) : xl_call o l ρ = some (.ok es ρ1) := bindE h (by rw [h2]; rfl)
theorem x_callE {o : List Da → Option Da} (h : l ρ = some (.ok ds ρ1)) (h2 : o ds = some r) : x_call o l ρ = some (.ok r ρ1) := bindE h (by rw [h2]; rfl)
theorem x_callDE {o : List Da → Option Da} {n : Nat} (h : l ρ = some (.ok ds ρ1)) (hn : ds.length = n) (h2 : o ds = some r) : x_call (fun ds => if ds.length = n then o ds else none) l ρ = some (.ok r ρ1) := x_callE h (by rw [if_pos hn]; exact h2)
theorem ifOwnE {f : Xf α} {i : Nat} {en : Ent} {gs : List Da} (h : ρ[i]? = some en) (h2 : lsOf en = some gs) : ifOwn i f ρ = f ρ := by unfold ifOwn; rw [h]; show (match lsOf en with | some _ => f ρ | none => none) = _; rw [h2]
theorem x_callGE {i n : Nat} {o : List Da → List Da → Option (Rp × List Da)} {en e1 : Ent} {gs0 gs gs' : List Da} (h0 : ρ[i]? = some en) (h00 : lsOf en = some gs0) (h : l ρ = some (.ok ds ρ1)) (h1 : ρ1[i]? = some e1) (h2 : lsOf e1 = some gs) (hn : ds.length = n) (h3 : o gs ds = some (.ok d, gs')) : x_callG i n o l ρ = some (.ok d (ρ1.set i (lsTo e1 gs'))) := by
  unfold x_callG
  rw [ifOwnE h0 h00]
  refine bindE h ?_
  unfold callG
  rw [h1]
  show (match lsOf e1 with
    | some gs => if ds.length = n then (o gs ds).bind fun r => rpTo r.1 (ρ1.set i (lsTo e1 r.2)) else none
    | none => none) = _
  rw [h2]
  show (if ds.length = n then (o gs ds).bind fun r => rpTo r.1 (ρ1.set i (lsTo e1 r.2)) else none) = _
  rw [if_pos hn, h3]; rfl
theorem x_popE {i : Nat} {en e1 : Ent} {gs0 gs : List Da} {k : Int} {j : Nat} {y : Da} (h0 : ρ[i]? = some en) (h00 : lsOf en = some gs0) (h : f ρ = some (.ok (enc k) ρ1)) (h1 : ρ1[i]? = some e1) (h2 : lsOf e1 = some gs) (hk : k = (j : Int)) (hj : gs[j]? = some y) : x_pop i f ρ = some (.ok y (ρ1.set i (lsTo e1 (gs.eraseIdx j)))) := by
  unfold x_pop
  rw [ifOwnE h0 h00]
  refine bindE h ?_
  have hlt : j < gs.length := (List.getElem?_eq_some_iff.mp hj).1
  have hix : L2.ixN gs.length k = some j := by
    unfold L2.ixN
    rw [if_pos (by omega), if_pos (by omega), hk, Int.toNat_natCast]
  show (match ρ1[i]?, PyData.int k with
    | some e, .int k => match lsOf e with
      | some ds => match L2.ixN ds.length k with
        | some j => match ds[j]? with
          | some y => some (Ro.ok y (ρ1.set i (lsTo e (ds.eraseIdx j))))
          | none => none
        | none => none
      | none => none
    | _, _ => none) = _
  rw [h1]
  show (match lsOf e1 with
      | some ds => match L2.ixN ds.length k with
        | some j => match ds[j]? with
          | some y => some (Ro.ok y (ρ1.set i (lsTo e1 (ds.eraseIdx j))))
          | none => none
        | none => none
      | none => none) = _
  rw [h2]
  show (match L2.ixN gs.length k with
        | some j => match gs[j]? with
          | some y => some (Ro.ok y (ρ1.set i (lsTo e1 (gs.eraseIdx j))))
          | none => none
        | none => none) = _
  rw [hix]
  show (match gs[j]? with
          | some y => some (Ro.ok y (ρ1.set i (lsTo e1 (gs.eraseIdx j))))
          | none => none) = _
  rw [hj]
theorem x_cutE {lo hi : Xf (Option Int)} {a z : Option Int} (h : f ρ = some (.ok d ρ1)) (h2 : lo ρ1 = some (.ok a ρ2)) (h3 : hi ρ2 = some (.ok z ρ3)) (h4 : o_cut d a z = some r) : x_cut f lo hi ρ = some (.ok r ρ3) := bindE h (bindE h2 (bindE h3 (by rw [h4]; rfl)))
theorem xp_atE {i : Int} (h : f ρ = some (.ok (enc i) ρ1)) : xp_at f ρ = some (.ok (some i) ρ1) := bindE h rfl
/-! statements -/
variable {sf sg : Sx} {q : Option Fx} {t : Xf Bool}
theorem s_ofE {s : Sf} {fl : Fl} (h : s ρ = some fl) : sx_of s ρ = some (.fl fl) := by unfold sx_of; rw [h]; rfl
theorem s_seqE (h : sf ρ = some (.fl (.nx ρ1))) (h2 : sg ρ1 = q) : sx_seq sf sg ρ = q := by unfold sx_seq; rw [h]; exact h2
theorem s_seqR (h : sf ρ = some (.fl (.rt d ρ1))) : sx_seq sf sg ρ = some (.fl (.rt d ρ1)) := by unfold sx_seq; rw [h]
theorem s_asgE {i : Nat} (h : f ρ = some (.ok d ρ1)) : sx_asg i f ρ = some (.fl (.nx (ρ1.set i (.im d)))) := by unfold sx_asg sx_with; rw [h]
theorem s_ownE {i : Nat} (h : l ρ = some (.ok ds ρ1)) : sx_own i l ρ = some (.fl (.nx (ρ1.set i (.ow ds)))) := by unfold sx_own sx_with; rw [h]
theorem s_retE (h : f ρ = some (.ok d ρ1)) : sx_ret f ρ = some (.fl (.rt d ρ1)) := by unfold sx_ret sx_with; rw [h]
theorem s_ifE (h : t ρ = some (.ok b ρ1)) (hb : b = false) (h2 : sg ρ1 = q) : sx_if t sf sg ρ = q := by
  unfold sx_if sx_with; rw [h, hb]
  show (if false = true then sf else sg) ρ1 = q
  rw [if_neg Bool.false_ne_true]; exact h2
theorem s_ifT (h : t ρ = some (.ok b ρ1)) (hb : b = true) (h2 : sf ρ1 = q) : sx_if t sf sg ρ = q := by
  unfold sx_if sx_with; rw [h, hb]
  show (if true = true then sf else sg) ρ1 = q
  rw [if_pos rfl]; exact h2
theorem s_putE {i j : Nat} {k : Int} {e1 : Ent} {gs : List Da} (h : f ρ = some (.ok d ρ1)) (h1 : ρ1[i]? = some e1) (h2 : lsOf e1 = some gs) (hj : L2.ixN gs.length k = some j) : sx_put i k f ρ = some (.fl (.nx (ρ1.set i (lsTo e1 (gs.set j d))))) := by
  unfold sx_put sx_with; rw [h]
  show DD.putAt i k d ρ1 = _
  unfold DD.putAt; rw [h1]
  show (match lsOf e1 with
    | some ds => match L2.ixN ds.length k with
      | some j => some (Fx.fl (.nx (ρ1.set i (lsTo e1 (ds.set j d)))))
      | none => none
    | none => none) = _
  rw [h2]
  show (match L2.ixN gs.length k with
      | some j => some (Fx.fl (.nx (ρ1.set i (lsTo e1 (gs.set j d)))))
      | none => none) = _
  rw [hj]
theorem s_appE {i : Nat} {en e1 : Ent} {gs0 gs : List Da} (h0 : ρ[i]? = some en) (h00 : lsOf en = some gs0) (h : f ρ = some (.ok d ρ1)) (h1 : ρ1[i]? = some e1) (h2 : lsOf e1 = some gs) (hz : gs.length < 16777216) : sx_app i f ρ = some (.fl (.nx (ρ1.set i (lsTo e1 (gs ++ [d]))))) := by
  unfold sx_app sx_with
  rw [ifOwnE h0 h00, h]
  show appAt i d ρ1 = _
  unfold appAt; rw [h1]
  show (match lsOf e1 with
    | some ds => if ds.length < sizeLine then some (Fx.fl (.nx (ρ1.set i (lsTo e1 (ds ++ [d]))))) else none
    | none => none) = _
  rw [h2]
  show (if gs.length < sizeLine then some (Fx.fl (.nx (ρ1.set i (lsTo e1 (gs ++ [d]))))) else none) = _
  rw [if_pos (by rw [PySem.sizeLine_eq]; exact hz)]
theorem s_frzE {i : Nat} (h : ρ[i]? = some (.ow ds)) (h2 : sf (ρ.set i (.im (.list ds))) = q) : sx_frz i sf ρ = q := by unfold sx_frz; rw [h]; exact h2
theorem s_parE {is : List Nat} {lp : Xf (List Pv)} {ps : List Pv} (h : lp ρ = some (.ok ps ρ1)) (hn : ps.length = is.length) : sx_par is lp ρ = some (.fl (.nx (setP is ps ρ1))) := by
  unfold sx_par sx_with; rw [h]
  show (if ps.length = is.length then some (Fx.fl (.nx (setP is ps ρ1))) else none) = _
  rw [if_pos hn]
theorem xp_imE {g : Xf (List Pv)} {ps : List Pv} (h : f ρ = some (.ok d ρ1)) (h2 : g ρ1 = some (.ok ps ρ2)) (hs : isSc d = false) : xp_im f g ρ = some (.ok (.im d :: ps) ρ2) := bindE h (bindE h2 (by rw [if_pos hs]; rfl))
theorem xp_owE {g : Xf (List Pv)} {ps : List Pv} (h : l ρ = some (.ok ds ρ1)) (h2 : g ρ1 = some (.ok ps ρ2)) : xp_ow l g ρ = some (.ok (.ow ds :: ps) ρ2) := bindE h (bindE h2 rfl)
/-- a loop that goes on by a state, drawing -/
theorem forX_st {α σ : Type} {t : Tg} {b : Sx} {f : α → Da} {st : Nat → σ → DEnv → Prop} {N : Nat} : ∀ (xs : List α) (i : Nat) (s : σ) (ρ : DEnv), i + xs.length ≤ N → st i s ρ → (∀ i s ρ x, i < N → x ∈ xs → st i s ρ → ∃ ρ1 ρ2 s', bindT t (f x) ρ = some ρ1 ∧ b ρ1 = some (.fl (.nx ρ2)) ∧ st (i + 1) s' ρ2) → ∃ ρ' s', forX t b (xs.map f) ρ = some (.fl (.nx ρ')) ∧ st (i + xs.length) s' ρ'
  | [], i, s, ρ, hN, h, _ => ⟨ρ, s, rfl, h⟩
  | x :: xs, i, s, ρ, hN, h, k => by
    rw [List.length_cons] at hN
    obtain ⟨ρ1, ρ2, s', h1, h2, h3⟩ := k i s ρ x (by omega) List.mem_cons_self h
    obtain ⟨ρ', s'', h4, h5⟩ := forX_st xs (i + 1) s' ρ2 (by omega) h3 fun i s ρ y hi hy => k i s ρ y hi (List.mem_cons_of_mem _ hy)
    refine ⟨ρ', s'', ?_, by rw [List.length_cons, show i + (xs.length + 1) = i + 1 + xs.length by omega]; exact h5⟩
    rw [List.map_cons, forX, h1]
    show (match b ρ1 with
      | some (.fl (.nx ρ2)) => forX t b (xs.map f) ρ2
      | some (.fl (.ct ρ2)) => forX t b (xs.map f) ρ2
      | some (.fl (.bk ρ2)) => some (.fl (.nx ρ2))
      | r => r) = _
    rw [h2]; exact h4
theorem s_forE {α σ : Type} {it : Xf (List Da)} {t : Tg} {b : Sx} {f : α → Da} {xs : List α} (st : Nat → σ → DEnv → Prop) (s0 : σ) {R : Option Fx → Prop} (hit : it ρ = some (.ok (xs.map f) ρ1)) (h0 : st 0 s0 ρ1)
    (k : ∀ i s ρ x, i < xs.length → x ∈ xs → st i s ρ → ∃ ρ1 ρ2 s', bindT t (f x) ρ = some ρ1 ∧ b ρ1 = some (.fl (.nx ρ2)) ∧ st (i + 1) s' ρ2)
    (h : ∀ ρ' s', st xs.length s' ρ' → R (sg ρ')) : R (sx_seq (sx_for it t b) sg ρ) := by
  obtain ⟨ρ', s', h1, h2⟩ := forX_st (N := xs.length) xs 0 s0 ρ1 (by omega) h0 k
  rw [Nat.zero_add] at h2
  have e : sx_seq (sx_for it t b) sg ρ = sg ρ' := by
    unfold sx_seq sx_for sx_with
    rw [hit]
    show (match forX t b (xs.map f) ρ1 with
      | some (.fl (.nx ρ')) => sg ρ'
      | r => r) = _
    rw [h1]
  rw [e]
  exact h ρ' s' h2
theorem s_for1 {it : Xf (List Da)} {tg : Tg} {b : Sx} (hit : it ρ = some (.ok [d] ρ1)) (hb : bindT tg d ρ1 = some ρ2) (h : b ρ2 = some (.fl (.nx ρ3))) : sx_for it tg b ρ = some (.fl (.nx ρ3)) := by
  unfold sx_for sx_with
  rw [hit]
  show forX tg b [d] ρ1 = _
  unfold forX
  rw [hb]
  show (match b ρ2 with
      | some (.fl (.nx ρ2)) => forX tg b [] ρ2
      | some (.fl (.ct ρ2)) => forX tg b [] ρ2
      | some (.fl (.bk ρ2)) => some (.fl (.nx ρ2))
      | r => r) = _
  rw [h]; rfl
theorem runGE {n nN : Nat} {sf : Sx} {gs gs' : List Da} (hn : ds.length = n) (h : sf (startG nN gs ds) = some (.fl (.rt d ρ))) (h2 : ρ[0]? = some (.gn gs')) : defG n nN sf gs ds = some (.ok d, gs') := by
  unfold defG runG
  rw [if_pos hn, h]
  show gsAt ρ (.ok d) = _
  unfold gsAt
  rw [h2]
theorem runNE {n nN : Nat} {nf : Nf} {s : Sf} (hn : ds.length = n) (h : s (startE nN ds) = some (.nx ρ)) (h2 : nf ρ = some es) : defN n nN (n_seq s nf) ds = some es := by
  unfold defN n_seq
  rw [if_pos hn, h]; exact h2
theorem runXE {n nN : Nat} {sf : Sx} (hn : ds.length = n) (h : sf (startE nN ds) = some (.fl (.rt d ρ))) : defX n nN sf ds = some (.ok d) := by
  unfold defX runX
  rw [if_pos hn, h]
end
end MM
end

section
set_option Elab.async false
set_option linter.all false
set_option maxRecDepth 100000
set_option maxHeartbeats 2000000
/-! Plain: how many tops there can be; complexes made of lots. -/
namespace MM
open PySem DD
open Dat (enc)

/-- a list without doubles within another one is no longer -/
theorem nodup_le {α : Type} [DecidableEq α] : ∀ (l m : List α), l.Nodup → (∀ x ∈ l, x ∈ m) → l.length ≤ m.length
  | [], _, _, _ => Nat.zero_le _
  | x :: l, m, h, hs => by
    have h' := List.nodup_cons.mp h
    have hx := hs x List.mem_cons_self
    have ih := nodup_le l (m.erase x) h'.2 fun y hy => by
      refine (List.mem_erase_of_ne fun e => h'.1 (by rw [← e]; exact hy)).mpr (hs y (List.mem_cons_of_mem _ hy))
    rw [List.length_erase_of_mem hx] at ih
    have : 0 < m.length := List.length_pos_of_mem hx
    rw [List.length_cons]; omega
theorem filter_lot {m : Int} {l : Lot} (h : IsLot m l) (p : Int → Bool) : IsLot m (l.filter p) := ⟨h.asc.sublist List.filter_sublist, fun x hx => h.rng x ((List.mem_filter.mp hx).1)⟩
/-- tops of n + 1 points: at most 2 ^ n -/
theorem tops_len {n : Nat} {ts : List Lot} (h : Tops ((n + 1 : Nat) : Int) ts) : ts.length ≤ 2 ^ n := by
  -- a top without the last point n tells the top
  have key : (ts.map fun t => t.filter fun x => decide (x < (n : Int))).Nodup := by
    refine List.pairwise_map.mpr (List.Pairwise.imp_of_mem (fun {a b} ha hb hne e => ?_) (asc_nodup h.asc))
    have la := h.lot a ha
    have lb := h.lot b hb
    -- either within the other
    have hsub : ∀ {a b : Lot}, IsLot ((n + 1 : Nat) : Int) a → (a.filter fun x => decide (x < (n : Int))) = (b.filter fun x => decide (x < (n : Int))) → ((n : Int) ∈ a → (n : Int) ∈ b) → sub a b = true := fun {a b} la e hn => sub_iff.mpr fun x hx => by
      by_cases hxn : x < (n : Int)
      · have : x ∈ a.filter fun x => decide (x < (n : Int)) := List.mem_filter.mpr ⟨hx, decide_eq_true hxn⟩
        rw [e] at this
        exact (List.mem_filter.mp this).1
      · have := la.rng x hx
        have hxe : x = (n : Int) := by omega
        rw [hxe] at hx ⊢
        exact hn hx
    by_cases h1 : (n : Int) ∈ a
    · by_cases h2 : (n : Int) ∈ b
      · exact hne (h.anti a ha b hb (hsub la e fun _ => h2))
      · exact hne (h.anti b hb a ha (hsub lb e.symm fun q => absurd q h2)).symm
    · exact hne (h.anti a ha b hb (hsub la e fun q => absurd q h1))
  have := nodup_le _ (raw n) key fun l hl => by
    obtain ⟨t, ht, rfl⟩ := List.mem_map.mp hl
    refine (mem_raw n _).mpr ⟨(filter_lot (h.lot t ht) _).asc, fun x hx => ?_⟩
    have h1 := (h.lot t ht).rng x ((List.mem_filter.mp hx).1)
    have h2 := of_decide_eq_true (List.mem_filter.mp hx).2
    exact ⟨h1.1, h2⟩
  rwa [List.length_map, raw_len] at this
theorem tops_len5 {n : Nat} {ts : List Lot} (h : Tops (n : Int) ts) (h5 : n ≤ 5) : ts.length ≤ 16 := by
  cases n with
  | zero =>
    cases ts with
    | nil => exact Nat.zero_le _
    | cons t ts =>
      have h1 := (h.lot t List.mem_cons_self).len'
      exact absurd (List.eq_nil_of_length_eq_zero (by omega)) (h.ne t List.mem_cons_self)
  | succ n =>
    have h1 := tops_len h
    have h2 : 2 ^ n ≤ 2 ^ 4 := Nat.pow_le_pow_right (by decide) (by omega)
    omega
end MM
end

section
set_option Elab.async false
set_option linter.all false
set_option maxRecDepth 100000
set_option maxHeartbeats 2000000
namespace K09
open PySem DD MM
open Dat (enc)

theorem ev_is_within (a b : List Int) : o_is_within [enc a, enc b] = some (enc (sub a b)) := by
  have h : o_is_within [enc a, enc b] = some (enc ((a.map fun x => memB x b).all id)) := by
    unfold o_is_within sf_is_within
    refine v_run rfl (v_ret (v_call (v_cons (v_new (v_lcM (v_items (v_var rfl)) fun x hx => ⟨_, rfl, ?_⟩)) v_nil) (w_all _)))
    exact v_bin (v_var rfl) (v_var rfl) (ev_in _ _)
  rw [h, List.all_map]; rfl
theorem ev_is_whole (n : Int) : o_is_whole [enc n] = some (enc true) := by
  have h : o_is_whole [enc n] = some (enc (isT "int" (enc n) && !isT "bool" (enc n))) := by
    unfold o_is_whole sf_is_whole
    exact v_run rfl (v_ret (v_and (v_isi (v_var rfl) rfl) fun _ => v_not (v_isi (v_var rfl) rfl)))
  rw [h]; rfl
theorem ev_has_face (m : Int) (ts : List Lot) (l : List Int) : o_has_face [enc (⟨m, ts⟩ : Bd), enc l] = some (enc (face ts l)) := by
  have h : o_has_face [enc (⟨m, ts⟩ : Bd), enc l] = some (enc (decide (l ≠ []) && ((ts.map fun t => sub l t).any id))) := by
    unfold o_has_face sf_has_face
    refine v_run rfl (v_ret (v_and (v_bin (v_var rfl) (v_lst v_nil (by decide)) (ev_ne l [])) fun _ => ?_))
    refine v_call (v_cons (v_new (v_lcM (v_items (v_bin (v_var rfl) (v_cI _) (w_ixt _))) fun x hx => ⟨_, rfl, ?_⟩)) v_nil) (w_any _)
    exact v_call (v_cons (v_var rfl) (v_cons (v_var rfl) v_nil)) (ev_is_within _ _)
  rw [h, List.any_map]; rfl
theorem ev_many_in (b : Bd) : o_many_in [enc b] = some (enc b.m) := by
  unfold o_many_in sf_many_in
  exact v_run rfl (v_ret (v_bin (v_var rfl) (v_cI _) (w_ixm b)))
theorem ev_tops_in (b : Bd) : o_tops_in [enc b] = some (enc b.ts) := by
  have h : o_tops_in [enc b] = some (.list ((b.ts.map fun x => x).map enc)) := by
    unfold o_tops_in sf_tops_in
    refine v_run rfl (v_ret (v_new (v_lcM (v_items (v_bin (v_var rfl) (v_cI _) (w_ixt b))) fun x hx => ⟨_, rfl, ?_⟩)))
    exact v_new (v_lcall (v_cons (v_var rfl) v_nil) (w_list x))
  rw [h, List.map_id']; rfl
theorem ev_complex_of (m : Int) (ls : List Lot) (hz : ls.length ≤ 1000000) : o_complex_of [enc m, enc ls] = some (enc (⟨m, topsOf ls⟩ : Bd)) := by
  unfold o_complex_of sf_complex_of
  suffices h : ∃ ρ', s_seq _ _ (startE 5 [enc m, enc ls]) = some (.rt (enc (⟨m, topsOf ls⟩ : Bd)) ρ') by
    obtain ⟨ρ', h⟩ := h
    exact v_run rfl h
  rw [v_seq (v_own (v_llst v_nil (by decide))) rfl]
  refine v_forS (f := enc) (xs := ls) (R := fun r => ∃ ρ', r = some (.rt _ ρ')) (fun i (s : List Lot) ρ => s.length ≤ i ∧ ∃ e3 e4, ρ = [.im (enc m), .im (enc ls), .ow (s.map enc), e3, e4]) (mxStep ls) [] (v_items (v_var rfl)) ⟨Nat.le_refl _, _, _, rfl⟩ ?_ ?_
  · rintro i s ρ l hi hl ⟨hs, e3, e4, rfl⟩
    refine ⟨[.im (enc m), .im (enc ls), .ow (s.map enc), .im (enc l), e4], [.im (enc m), .im (enc ls), .ow ((mxStep ls s l).map enc), .im (enc l), e4], rfl, ?_, ?_, _, _, rfl⟩
    · have ht : (t_and (t_bool (e_bin o_ne (e_var 3) (e_lst (l_nil)))) (t_and (t_sc (t_bool (e_bin o_notin (e_var 3) (e_var 2)))) (t_not (t_val (e_call c_any (l_cons (e_new (l_lc (l_items (e_var 1)) (.one 4) (fun _ => some true) (e_and (e_bin o_ne (e_var 3) (e_var 4)) (e_call o_is_within (l_cons (e_var 3) (l_cons (e_var 4) (l_nil))))) [4])) (l_nil))))))) [.im (enc m), .im (enc ls), .ow (s.map enc), .im (enc l), e4] = some (decide (l ≠ []) && (!memB l s && !((ls.map fun o => decide (l ≠ o) && sub l o).any id))) := by
        refine v_tand (v_tbool (v_bin (v_var rfl) (v_lst v_nil (by decide)) (ev_ne l []))) fun _ => v_tand (v_tsc (v_tbool (v_bin (v_var rfl) (v_var rfl) (ev_notin l s)))) fun _ => v_tnot (v_tvalB (v_call (v_cons (v_new (v_lcM (v_items (v_var rfl)) fun x hx => ⟨_, rfl, ?_⟩)) v_nil) (w_any _)))
        exact v_and (v_bin (v_var rfl) (v_var rfl) (ev_ne l x)) fun _ => v_call (v_cons (v_var rfl) (v_cons (v_var rfl) v_nil)) (ev_is_within _ _)
      rw [List.any_map] at ht
      unfold mxStep
      by_cases hc : (decide (l ≠ []) && (!memB l s && !(ls.any fun o => decide (l ≠ o) && sub l o))) = true
      · rw [if_pos hc]
        refine v_ifT ht hc ?_
        rw [v_app (ds := s.map enc) rfl (v_new (v_lcall (v_cons (v_var rfl) v_nil) (w_list l))) (by rw [List.length_map]; omega), List.map_append]
        rfl
      · rw [if_neg hc]
        exact v_ifF ht (by simpa using hc) v_snil
    · have := mxStep_len ls s l
      omega
  · rintro ρ' ⟨hs, e3, e4, rfl⟩
    exact ⟨_, v_ret (v_tup (v_cons rfl (v_cons (v_var rfl) (v_cons (v_new (v_sortedo (xs := mx ls) rfl)) v_nil))))⟩

/-- an ascending list of points below n -/
def lotB (n : Int) (l : Lot) : Bool := (l.all fun x => !decide (x < 0) && decide (x < n)) && ((List.range (l.length - 1)).all fun i => decide (l.getD i 0 < l.getD (i + 1) 0))
theorem ev_is_lot_by (n : Int) (l : Lot) (hz : l.length ≤ 1000000) : o_is_lot_by [enc n, enc l] = some (enc (lotB n l)) := by
  unfold o_is_lot_by sf_is_lot_by
  have h1 : (t_or (t_not (t_val (e_isi "list" (e_var 1)))) (t_not (t_val (e_call c_all (l_cons (e_new (l_lc (l_items (e_var 1)) (.one 3) (fun _ => some true) (e_and (e_call o_is_whole (l_cons (e_var 3) (l_nil))) (e_chain (o_ord fun d e => !PySem.W.dataLt e d) (o_ord PySem.W.dataLt) (e_c (.int 0)) (e_var 3) (e_var 0))) [3])) (l_nil)))))) (startE 4 [enc n, enc l]) = some (!isT "list" (enc l) || !((l.map fun x => true && (!decide (x < 0) && decide (x < n))).all id)) := by
    refine v_tor (v_tnot (v_tvalB (v_isi (v_var rfl) rfl))) fun _ => v_tnot (v_tvalB (v_call (v_cons (v_new (v_lcM (v_items (v_var rfl)) fun x hx => ⟨_, rfl, ?_⟩)) v_nil) (w_all _)))
    exact v_and (v_call (v_cons (v_var rfl) v_nil) (ev_is_whole x)) fun _ => v_chain (v_cI _) (v_var rfl) (ev_le (0 : Int) x) (fun _ => v_var rfl) fun _ => ev_lt x n
  have e1 : (!isT "list" (enc l) || !((l.map fun x => true && (!decide (x < 0) && decide (x < n))).all id)) = !(l.all fun x => !decide (x < 0) && decide (x < n)) := by
    rw [List.all_map]
    have : isT "list" (enc l) = true := rfl
    rw [this]
    simp [Function.comp_def]
  rw [e1] at h1
  unfold lotB
  cases hc : l.all fun x => !decide (x < 0) && decide (x < n) with
  | false =>
    rw [hc] at h1
    exact v_run rfl (v_seqR (v_ifT h1 rfl (v_ret (v_cB false))))
  | true =>
    rw [hc] at h1
    refine v_run rfl (v_seq (v_ifF h1 rfl v_snil) (v_ret ?_))
    refine (v_call (r := enc (((List.range ((l.length : Int) - 1).toNat).map fun i => decide (l.getD i 0 < l.getD (i + 1) 0)).all id)) (v_cons (v_new (v_lcM (v_range2 (v_cons (v_cI 1) (v_cons (v_call (v_cons (v_var rfl) v_nil) (w_len l)) v_nil)) (by decide) (by decide) (by omega) (by omega)) fun i hi => ⟨_, rfl, ?_⟩)) v_nil) (w_all _)).trans ?_
    · have hi := List.mem_range.mp hi
      have a1 : i < l.length := by omega
      have a2 : i + 1 < l.length := by omega
      have g1 : l.getD i 0 = l[i] := by simp [List.getD, List.getElem?_eq_getElem a1]
      have g2 : l.getD (i + 1) 0 = l[i + 1] := by simp [List.getD, List.getElem?_eq_getElem a2]
      rw [g1, g2]
      exact v_bin (v_bin (v_var rfl) (v_bin (v_var rfl) (v_cI 1) (w_subI _ _)) (w_ix l _ i (by omega) a1)) (v_bin (v_var rfl) (v_var rfl) (w_ix l _ (i + 1) (by omega) a2)) (ev_lt _ _)
    · rw [List.all_map]
      have : ((l.length : Int) - 1).toNat = l.length - 1 := by omega
      rw [this]; rfl
end K09
end

section
set_option Elab.async false
set_option linter.all false
set_option maxRecDepth 100000
set_option maxHeartbeats 2000000
namespace K09
open PySem DD MM
open Dat (enc)

theorem adj_pair : ∀ (l : Lot), ((List.range (l.length - 1)).all fun i => decide (l.getD i 0 < l.getD (i + 1) 0)) = true ↔ l.Pairwise (· < ·) := by
  intro l
  rw [List.all_eq_true]
  simp only [List.mem_range, decide_eq_true_eq]
  induction l with
  | nil => simp
  | cons a l ih =>
    constructor
    · intro h
      have hl : l.Pairwise (· < ·) := ih.mp fun i hi => by
        have := h (i + 1) (by rw [List.length_cons]; omega)
        simpa using this
      refine List.pairwise_cons.mpr ⟨fun b hb => ?_, hl⟩
      cases l with
      | nil => cases hb
      | cons c l =>
        have h0 : a < c := by
          have := h 0 (by simp)
          simpa using this
        rcases List.mem_cons.mp hb with e | e
        · rw [e]; exact h0
        · have := (List.pairwise_cons.mp hl).1 b e
          omega
    · intro h i hi
      have hp := List.pairwise_cons.mp h
      cases i with
      | zero =>
        cases l with
        | nil => simp at hi
        | cons c l =>
          have := hp.1 c List.mem_cons_self
          simpa using this
      | succ i =>
        rw [List.length_cons] at hi
        have := ih.mpr hp.2 i (by omega)
        simpa using this
theorem lotB_iff {n : Int} {l : Lot} : lotB n l = true ↔ IsLot n l := by
  unfold lotB
  rw [Bool.and_eq_true, adj_pair, List.all_eq_true]
  simp only [Bool.and_eq_true, Bool.not_eq_true', decide_eq_true_eq, decide_eq_false_iff_not]
  constructor
  · rintro ⟨h1, h2⟩
    exact ⟨h2, fun x hx => by have := h1 x hx; omega⟩
  · rintro ⟨h1, h2⟩
    exact ⟨fun x hx => by have := h2 x hx; omega, h1⟩
/-- all lots -/
theorem raw_fold : ∀ n : Nat, (List.range n).foldl (fun f i => f ++ f.map fun l => l ++ [((0 : Int) + (i : Nat))]) [[]] = raw n
  | 0 => rfl
  | n + 1 => by
    rw [List.range_succ, List.foldl_append, raw_fold n]
    show raw n ++ (raw n).map _ = raw n ++ (raw n).map _
    simp only [Int.zero_add]
theorem pow_le {n : Nat} (h : n ≤ 7) : 2 ^ n ≤ 128 := by
  match n, h with
  | 0, _ | 1, _ | 2, _ | 3, _ | 4, _ | 5, _ | 6, _ | 7, _ => decide
theorem ev_lots_of (n : Nat) (hn : n ≤ 7) : o_lots_of [enc (n : Int)] = some (enc (lots n)) := by
  unfold o_lots_of sf_lots_of
  suffices h : ∃ ρ', s_seq _ _ (startE 5 [enc (n : Int)]) = some (.rt (enc (lots n)) ρ') by
    obtain ⟨ρ', h⟩ := h
    exact v_run rfl h
  rw [v_seq (v_asg (v_lst (v_cons (v_lst v_nil (by decide)) v_nil) (by decide))) rfl]
  refine v_forS (f := fun i : Nat => enc ((0 : Int) + (i : Nat))) (xs := List.range n) (R := fun r => ∃ ρ', r = some (.rt _ ρ')) (fun i (s : List Lot) ρ => (s.length = 2 ^ i ∧ ∀ l ∈ s, l.length ≤ i) ∧ ∃ e2 e3 e4, ρ = [.im (enc (n : Int)), .im (enc s), e2, e3, e4]) (fun f i => f ++ f.map fun l => l ++ [((0 : Int) + (i : Nat))]) [[]] (v_range1 (b := (n : Int)) (v_cons (v_var rfl) v_nil) (by omega) (by omega)) ⟨⟨rfl, fun l hl => by rw [List.mem_singleton.mp hl]; exact Nat.le_refl _⟩, _, _, _, rfl⟩ ?_ ?_
  · rintro i s ρ x hi hx ⟨⟨hs, hb⟩, e2, e3, e4, rfl⟩
    rw [List.length_range] at hi
    have hp : 2 ^ i ≤ 2 ^ 7 := Nat.pow_le_pow_right (by decide) (by omega)
    refine ⟨_, [.im (enc (n : Int)), .im (enc (s ++ s.map fun l => l ++ [((0 : Int) + (x : Nat))])), .im (enc ((0 : Int) + (x : Nat))), e3, e4], rfl, ?_, ⟨by rw [List.length_append, List.length_map, hs, Nat.pow_succ]; omega, fun l hl => ?_⟩, _, _, _, rfl⟩
    · refine (v_asg (v_bin (v_var rfl) (v_new (v_lcM (v_items (v_var rfl)) fun l hl => ⟨_, rfl, ?_⟩)) (w_add s (s.map fun l => l ++ [((0 : Int) + (x : Nat))]) (by rw [List.length_map]; omega)))).trans rfl
      refine v_bin (v_var rfl) (v_lst (v_cons (v_var rfl) v_nil) one_le) (w_add l [((0 : Int) + (x : Nat))] ?_)
      have := hb l hl
      show l.length + 1 ≤ _
      omega
    · rcases List.mem_append.mp hl with q | q
      · have := hb l q; omega
      · obtain ⟨k, hk, rfl⟩ := List.mem_map.mp q
        have := hb k hk
        rw [List.length_append, List.length_singleton]; omega
  · rintro ρ' ⟨hs, e2, e3, e4, rfl⟩
    rw [raw_fold]
    refine ⟨_, v_ret (v_new ?_)⟩
    refine v_lcM (f := fun p : Int × Lot => enc p) (f' := enc) (g := fun p : Int × Lot => p.2) (xs := isort ((raw n).map fun l => ((l.length : Int), l))) ?_ ?_
    · refine v_itemsL (v_new (v_lcall (v_cons (v_new ?_) v_nil) (ev_sorted _)))
      refine v_lcM (f' := enc) (g := fun l : Lot => ((l.length : Int), l)) (v_items (v_var rfl)) fun l hl => ⟨_, rfl, ?_⟩
      exact v_tup (v_cons (v_call (v_cons (v_var rfl) v_nil) (w_len l)) (v_cons (v_var rfl) v_nil))
    · intro p hp
      exact ⟨_, bind_pair 3 4 p _, v_var rfl⟩
end K09
end

section
set_option Elab.async false
set_option linter.all false
set_option maxRecDepth 100000
set_option maxHeartbeats 2000000
namespace K09
open PySem DD MM
open Dat (enc)

/-- a complex of n points as it has to be -/
structure OkB (n : Nat) (ts : List Lot) : Prop where
  n1 : 1 ≤ n
  n7 : n ≤ 7
  len : ts.length ≤ 20
  tops : Tops (n : Int) ts
abbrev bd (n : Nat) (ts : List Lot) : Bd := ⟨(n : Int), ts⟩
theorem ev_is_many (n : Nat) (h1 : 1 ≤ n) (h7 : n ≤ 7) : o_is_many [enc (n : Int)] = some (enc true) := by
  have h : o_is_many [enc (n : Int)] = some (enc (true && (!decide ((n : Int) < 1) && !decide ((7 : Int) < n)))) := by
    unfold o_is_many sf_is_many
    exact v_run rfl (v_ret (v_and (v_call (v_cons (v_var rfl) v_nil) (ev_is_whole n)) fun _ => v_chain (v_cI 1) (v_var rfl) (ev_le (1 : Int) n) (fun _ => v_cI 7) fun _ => ev_le (n : Int) 7))
  rw [h]
  have e1 : decide ((n : Int) < 1) = false := decide_eq_false (by omega)
  have e2 : decide ((7 : Int) < n) = false := decide_eq_false (by omega)
  rw [e1, e2]; rfl
theorem adj_asc : ∀ (l : List Lot), ((List.range (l.length - 1)).all fun i => lexL (l.getD i []) (l.getD (i + 1) [])) = true ↔ Asc l := by
  intro l
  rw [List.all_eq_true]
  simp only [List.mem_range]
  induction l with
  | nil => simp
  | cons a l ih =>
    constructor
    · intro h
      have hl : Asc l := ih.mp fun i hi => h (i + 1) (by rw [List.length_cons]; omega)
      refine List.pairwise_cons.mpr ⟨fun b hb => ?_, hl⟩
      cases l with
      | nil => cases hb
      | cons c l =>
        have h0 : lexL a c = true := h 0 (by simp)
        rcases List.mem_cons.mp hb with e | e
        · rw [e]; exact h0
        · exact lexL_tr a c b h0 ((List.pairwise_cons.mp hl).1 b e)
    · intro h i hi
      have hp := List.pairwise_cons.mp h
      cases i with
      | zero =>
        cases l with
        | nil => simp at hi
        | cons c l =>
          exact hp.1 c List.mem_cons_self
      | succ i =>
        rw [List.length_cons] at hi
        exact ih.mpr hp.2 i (by omega)
theorem ev_is_complex_by {n : Nat} {ts : List Lot} (h : OkB n ts) : o_is_complex_by [enc (bd n ts)] = some (enc true) := by
  unfold o_is_complex_by sf_is_complex_by
  suffices h : ∃ ρ', s_seq _ _ (startE 5 [enc (bd n ts)]) = some (.rt (enc true) ρ') by
    obtain ⟨ρ', h⟩ := h
    exact v_run rfl h
  have hlen := h.len
  rw [v_seq (v_ifF (v_tor (v_tnot (v_tvalB (v_isi (v_var rfl) rfl))) fun _ => v_tor (v_tbool (v_bin (v_call (v_cons (v_var rfl) v_nil) (r := enc (3 : Int)) rfl) (v_cI 3) (ev_ne (3 : Int) 3))) fun _ => v_tor (v_tnot (v_tvalB (v_isi (v_bin (v_var rfl) (v_cI 0) (w_ix0 _)) rfl))) fun _ => v_tbool (v_bin (v_bin (v_var rfl) (v_cI 0) (w_ix0 _)) rfl (ev_ne_str _ cx_shaped))) rfl v_snil) rfl]
  rw [v_seq (v_ifF (b := false) (v_tor (b := false) (v_tnot (b := true) (v_tvalB (v_call (v_cons (v_bin (v_var rfl) (v_cI 1) (w_ixm _)) v_nil) (ev_is_many n h.n1 h.n7)))) fun _ => v_tor (b := false) (v_tnot (b := true) (v_tvalB (v_isi (v_bin (v_var rfl) (v_cI 2) (w_ixt _)) rfl))) fun _ => v_tbool (b := false) (v_bin (v_call (v_cons (v_bin (v_var rfl) (v_cI 2) (w_ixt _)) v_nil) (w_len _)) (v_cI 20) ((ev_gt (ts.length : Int) 20).trans (congrArg some (congrArg enc (decide_eq_false (by omega))))))) rfl v_snil) rfl]
  rw [v_seq (v_asg (v_bin (v_var rfl) (v_cI 2) (w_ixt _))) rfl]
  show ∃ ρ', s_seq _ _ [.im (enc (bd n ts)), .im (enc ts), .no, .no, .no] = _
  have h4 : (t_not (t_val (e_call c_all (l_cons (e_new (l_lc (l_items (e_var 1)) (.one 3) (fun _ => some true) (e_and (e_call o_is_lot_by (l_cons (e_bin o_ix (e_var 0) (e_c (.int 1))) (l_cons (e_var 3) (l_nil)))) (e_bin o_ne (e_var 3) (e_lst (l_nil)))) [3])) (l_nil))))) [.im (enc (bd n ts)), .im (enc ts), .no, .no, .no] = some (!((ts.map fun t => lotB n t && decide (t ≠ [])).all id)) := by
    refine v_tnot (v_tvalB (v_call (v_cons (v_new (v_lcM (v_items (v_var rfl)) fun t ht => ⟨_, rfl, ?_⟩)) v_nil) (w_all _)))
    have := (h.tops.lot t ht).len'
    have := h.n7
    exact v_and (v_call (v_cons (v_bin (v_var rfl) (v_cI 1) (w_ixm _)) (v_cons (v_var rfl) v_nil)) (ev_is_lot_by n t (by omega))) fun _ => v_bin (v_var rfl) (v_lst v_nil (by decide)) (ev_ne t [])
  have e4 : ((ts.map fun t => lotB n t && decide (t ≠ [])).all id) = true := by
    rw [List.all_map, List.all_eq_true]
    intro t ht
    show (lotB n t && decide (t ≠ [])) = true
    rw [lotB_iff.mpr (h.tops.lot t ht), decide_eq_true (h.tops.ne t ht)]; rfl
  rw [v_seq (v_ifF h4 (by rw [e4]; rfl) v_snil) rfl]
  have h5 : (t_not (t_val (e_call c_all (l_cons (e_new (l_lc (l_range2 (l_cons (e_c (.int 1)) (l_cons (e_call c_len (l_cons (e_var 1) (l_nil))) (l_nil)))) (.one 2) (fun _ => some true) (e_bin (o_ord PySem.W.dataLt) (e_bin o_ix (e_var 1) (e_bin (o_int p_sub) (e_var 2) (e_c (.int 1)))) (e_bin o_ix (e_var 1) (e_var 2))) [2])) (l_nil))))) [.im (enc (bd n ts)), .im (enc ts), .no, .no, .no] = some (!(((List.range ((ts.length : Int) - 1).toNat).map fun i => lexL (ts.getD i []) (ts.getD (i + 1) [])).all id)) := by
    refine v_tnot (v_tvalB (v_call (v_cons (v_new (v_lcM (v_range2 (a := 1) (b := (ts.length : Int)) (v_cons (v_cI 1) (v_cons (v_call (v_cons (v_var rfl) v_nil) (w_len ts)) v_nil)) (by decide) (by decide) (by omega) (by omega)) fun i hi => ⟨_, rfl, ?_⟩)) v_nil) (w_all _)))
    have hi := List.mem_range.mp hi
    have a1 : i < ts.length := by omega
    have a2 : i + 1 < ts.length := by omega
    have g1 : ts.getD i [] = ts[i] := by simp [List.getD, List.getElem?_eq_getElem a1]
    have g2 : ts.getD (i + 1) [] = ts[i + 1] := by simp [List.getD, List.getElem?_eq_getElem a2]
    rw [g1, g2]
    exact v_bin (v_bin (v_var rfl) (v_bin (v_var rfl) (v_cI 1) (w_subI _ _)) (w_ix ts _ i (by omega) a1)) (v_bin (v_var rfl) (v_var rfl) (w_ix ts _ (i + 1) (by omega) a2)) (ev_lt _ _)
  have e5 : (((List.range ((ts.length : Int) - 1).toNat).map fun i => lexL (ts.getD i []) (ts.getD (i + 1) [])).all id) = true := by
    rw [List.all_map, show ((ts.length : Int) - 1).toNat = ts.length - 1 by omega]
    exact (adj_asc ts).mpr h.tops.asc
  rw [v_seq (v_ifF h5 (by rw [e5]; rfl) v_snil) rfl]
  refine v_forS (f := fun p : Int × Lot => enc p) (xs := enumI 0 ts) (σ := Unit) (R := fun r => ∃ ρ', r = some (.rt _ ρ')) (fun _ _ ρ => ∃ e2 e3 e4, ρ = [.im (enc (bd n ts)), .im (enc ts), e2, e3, e4]) (fun _ _ => ()) () (v_enum (v_cons (v_var rfl) v_nil)) ⟨_, _, _, rfl⟩ ?_ ?_
  · rintro i s ρ p hi hp ⟨e2, e3, e4, rfl⟩
    obtain ⟨k, hk, rfl⟩ := mem_enumI (n := 0) hp
    rw [Nat.zero_add]
    refine ⟨_, [.im (enc (bd n ts)), .im (enc ts), .im (enc (k : Int)), .im (enc ts[k]), e4], bind_pair 2 3 _ _, ?_, _, _, _, rfl⟩
    refine v_ifF (b := ((ts.take k ++ ts.drop (k + 1)).map fun o => sub ts[k] o).any id) (v_tvalB (v_call (v_cons (v_new (v_lcM (f := enc) (xs := ts.take k ++ ts.drop (k + 1)) (v_items ?_) fun o ho => ⟨_, rfl, ?_⟩)) v_nil) (w_any _))) ?_ v_snil
    · have c1 : (ts.take k).length + (ts.drop (k + 1)).length ≤ 16777216 := by rw [List.length_take, List.length_drop]; omega
      refine v_bin (v_cut (v_var rfl) v_pno (v_pat (v_var rfl)) ((w_cut ts none (some (k : Int))).trans (by rw [cut_to]))) (v_cut (v_var rfl) (v_pat (v_bin (v_var rfl) (v_cI 1) (w_addI _ _))) v_pno ((w_cut ts (some ((k : Int) + 1)) none).trans (by rw [← Int.natCast_succ, cut_from]))) (w_add _ _ c1)
    · exact v_call (v_cons (v_var rfl) (v_cons (v_var rfl) v_nil)) (ev_is_within _ _)
    · rw [List.any_map, List.any_eq_false]
      intro o ho hs
      have hs : sub ts[k] o = true := hs
      have hnd := asc_nodup h.tops.asc
      have hom : o ∈ ts := by
        rcases List.mem_append.mp ho with q | q
        · exact List.mem_of_mem_take q
        · exact List.mem_of_mem_drop q
      have e := h.tops.anti _ (List.getElem_mem hk) o hom hs
      have hsplit : ts = ts.take k ++ ts[k] :: ts.drop (k + 1) := by
        rw [← List.drop_eq_getElem_cons hk, List.take_append_drop]
      rw [hsplit] at hnd
      have hnd2 := List.nodup_append.mp hnd
      rcases List.mem_append.mp ho with q | q
      · exact hnd2.2.2 o q _ List.mem_cons_self e.symm
      · exact (List.nodup_cons.mp hnd2.2.1).1 (by rw [e]; exact q)
  · rintro ρ' ⟨e2, e3, e4, rfl⟩
    exact ⟨_, v_ret (v_cB true)⟩
theorem ev_check_complex {n : Nat} {ts : List Lot} (h : OkB n ts) : o_check_complex [enc (bd n ts)] = some .none := by
  unfold o_check_complex sf_check_complex
  exact v_runN rfl (v_ifF (v_tnot (v_tvalB (v_call (v_cons (v_var rfl) v_nil) (ev_is_complex_by h)))) rfl v_snil)
end K09
end

section
set_option Elab.async false
set_option linter.all false
set_option maxRecDepth 100000
set_option maxHeartbeats 2000000
namespace K09
open PySem DD MM
open Dat (enc)

/-- all faces, smaller ones first -/
def facesOf (n : Nat) (ts : List Lot) : List Lot := (lots n).filter (face ts)
theorem mem_facesOf {n : Nat} {ts : List Lot} {l : Lot} : l ∈ facesOf n ts ↔ IsLot (n : Int) l ∧ face ts l = true := by
  unfold facesOf
  rw [List.mem_filter, mem_lots]
theorem facesOf_len {n : Nat} (ts : List Lot) (h : n ≤ 7) : (facesOf n ts).length ≤ 128 := by
  unfold facesOf
  refine Nat.le_trans (List.length_filter_le _ _) ?_
  rw [lots_len]; exact pow_le h
theorem ev_faces_by (n : Nat) (ts : List Lot) (h : n ≤ 7) : o_faces_by [enc (bd n ts)] = some (enc (facesOf n ts)) := by
  unfold o_faces_by sf_faces_by
  refine v_run rfl (v_ret (v_new (v_lcF (f := enc) (p := face ts) (v_items (v_call (v_cons (v_bin (v_var rfl) (v_cI 1) (w_ixm _)) v_nil) (ev_lots_of n h))) fun l hl => ⟨_, rfl, ?_, v_var rfl⟩)))
  exact v_tvalB (v_call (v_cons (v_var rfl) (v_cons (v_var rfl) v_nil)) (ev_has_face _ _ _))
/-- all faces of a dimension -/
def facesAt (n : Nat) (ts : List Lot) (d : Int) : List Lot := (facesOf n ts).filter fun l => decide ((l.length : Int) = d + 1)
theorem ev_faces_at (n : Nat) (ts : List Lot) (d : Int) (h : n ≤ 7) : o_faces_at [enc (bd n ts), enc d] = some (enc (facesAt n ts d)) := by
  unfold o_faces_at sf_faces_at
  refine v_run rfl (v_ret (v_new (v_lcF (f := enc) (p := fun l : Lot => decide ((l.length : Int) = d + 1)) (v_items (v_call (v_cons (v_var rfl) v_nil) (ev_faces_by n ts h))) fun l hl => ⟨_, rfl, ?_, v_var rfl⟩)))
  exact v_tbool (v_bin (v_call (v_cons (v_var rfl) v_nil) (w_len l)) (v_bin (v_var rfl) (v_cI 1) (w_addI _ _)) (ev_eq _ _))
theorem ev_check_many {n : Nat} (h1 : 1 ≤ n) (h7 : n ≤ 7) : o_check_many [enc (n : Int)] = some .none := by
  unfold o_check_many sf_check_many
  exact v_runN rfl (v_ifF (v_tnot (v_tvalB (v_call (v_cons (v_var rfl) v_nil) (ev_is_many n h1 h7)))) rfl v_snil)
theorem ev_check_lots {n : Nat} {ls : List Lot} (h : ∀ l ∈ ls, IsLot (n : Int) l) (hn : n ≤ 7) : o_check_lots [enc (n : Int), enc ls] = some .none := by
  unfold o_check_lots sf_check_lots
  refine v_runN rfl (v_ifF (v_tor (v_tnot (v_tvalB (v_isi (v_var rfl) rfl))) fun _ => v_tnot (v_tvalB (v_call (v_cons (v_new (v_lcM (g := fun l => lotB n l) (v_items (v_var rfl)) fun l hl => ⟨_, rfl, ?_⟩)) v_nil) (w_all _)))) ?_ v_snil)
  · have := (h l hl).len'
    exact v_call (v_cons (v_var rfl) (v_cons (v_var rfl) v_nil)) (ev_is_lot_by n l (by omega))
  · have e : ((ls.map fun l => lotB n l).all id) = true := by
      rw [List.all_map, List.all_eq_true]
      exact fun l hl => lotB_iff.mpr (h l hl)
    rw [e]; rfl
theorem ev_checked (m : Int) (ts : List Lot) (h : ts.length ≤ 20) : o_checked [enc (⟨m, ts⟩ : Bd)] = some (enc (⟨m, ts⟩ : Bd)) := by
  unfold o_checked sf_checked
  exact v_run rfl (v_seq (v_ifF (v_tbool (v_bin (v_call (v_cons (v_bin (v_var rfl) (v_cI 2) (w_ixt _)) v_nil) (w_len _)) (v_cI 20) (ev_gt (ts.length : Int) 20))) (decide_eq_false (by omega)) v_snil) (v_ret (v_var rfl)))
theorem ev_complex_with {n : Nat} {ls : List Lot} (h1 : 1 ≤ n) (h7 : n ≤ 7) (h : ∀ l ∈ ls, IsLot (n : Int) l) (hl : ls.length ≤ 1000000) (ht : (topsOf ls).length ≤ 20) : o_complex_with [enc (n : Int), enc ls] = some (enc (bd n (topsOf ls))) := by
  unfold o_complex_with sf_complex_with
  exact v_run rfl (v_seq (v_drop (v_call (v_cons (v_var rfl) v_nil) (ev_check_many h1 h7))) (v_seq (v_drop (v_call (v_cons (v_var rfl) (v_cons (v_var rfl) v_nil)) (ev_check_lots h h7))) (v_ret (v_call (v_cons (v_call (v_cons (v_var rfl) (v_cons (v_var rfl) v_nil)) (ev_complex_of _ _ hl)) v_nil) (ev_checked _ _ ht)))))
theorem ev_all_faces {n : Nat} {ts : List Lot} (h : OkB n ts) : o_all_faces [enc (bd n ts)] = some (enc (facesOf n ts)) := by
  unfold o_all_faces sf_all_faces
  exact v_run rfl (v_seq (v_drop (v_call (v_cons (v_var rfl) v_nil) (ev_check_complex h))) (v_ret (v_call (v_cons (v_var rfl) v_nil) (ev_faces_by n ts h.n7))))
theorem ev_is_face_by (n : Nat) (ts : List Lot) (l : Lot) (hz : l.length ≤ 1000000) : o_is_face_by [enc (bd n ts), enc l] = some (enc (lotB n l && face ts l)) := by
  unfold o_is_face_by sf_is_face_by
  exact v_run rfl (v_ret (v_and (v_call (v_cons (v_bin (v_var rfl) (v_cI 1) (w_ixm _)) (v_cons (v_var rfl) v_nil)) (ev_is_lot_by n l hz)) fun _ => v_call (v_cons (v_var rfl) (v_cons (v_var rfl) v_nil)) (ev_has_face _ _ _)))
theorem ev_check_face {n : Nat} {ts : List Lot} {l : Lot} (hn : n ≤ 7) (h : l ∈ facesOf n ts) : o_check_face [enc (bd n ts), enc l] = some .none := by
  obtain ⟨h1, h2⟩ := mem_facesOf.mp h
  have := h1.len'
  unfold o_check_face sf_check_face
  refine v_runN rfl (v_ifF (v_tnot (v_tvalB (v_call (v_cons (v_var rfl) (v_cons (v_var rfl) v_nil)) (ev_is_face_by n ts l (by omega))))) ?_ v_snil)
  rw [lotB_iff.mpr h1, h2]; rfl
theorem ev_is_face {n : Nat} {ts : List Lot} {l : Lot} (hb : OkB n ts) (hz : l.length ≤ 1000000) : o_is_face [enc (bd n ts), enc l] = some (enc (lotB n l && face ts l)) := by
  unfold o_is_face sf_is_face
  exact v_run rfl (v_seq (v_drop (v_call (v_cons (v_var rfl) v_nil) (ev_check_complex hb))) (v_ret (v_call (v_cons (v_var rfl) (v_cons (v_var rfl) v_nil)) (ev_is_face_by n ts l hz))))
theorem ev_check_dimension (d : Int) (h0 : 0 ≤ d) (h7 : d < 7) : o_check_dimension [enc d] = some .none := by
  unfold o_check_dimension sf_check_dimension
  refine v_runN rfl (v_ifF (b := false || !(!decide (d < 0) && decide (d < 7))) (v_tor (v_tnot (v_tvalB (v_call (v_cons (v_var rfl) v_nil) (ev_is_whole d)))) fun _ => v_tnot (v_tbool (v_chain (v_cI 0) (v_var rfl) (ev_le (0 : Int) d) (fun _ => v_cI 7) fun _ => ev_lt d 7))) ?_ v_snil)
  rw [decide_eq_false (by omega : ¬ d < 0), decide_eq_true h7]; rfl
theorem ev_skeleton {n : Nat} {ts : List Lot} (hb : OkB n ts) (d : Int) (h0 : 0 ≤ d) (h7 : d < 7) (ht : (topsOf ((facesOf n ts).filter fun l => !decide (d + 1 < (l.length : Int)))).length ≤ 20) :
    o_skeleton [enc (bd n ts), enc d] = some (enc (bd n (topsOf ((facesOf n ts).filter fun l => !decide (d + 1 < (l.length : Int)))))) := by
  unfold o_skeleton sf_skeleton
  refine v_run rfl (v_seq (v_drop (v_call (v_cons (v_var rfl) v_nil) (ev_check_complex hb))) (v_seq (v_drop (v_call (v_cons (v_var rfl) v_nil) (ev_check_dimension d h0 h7))) (v_ret (v_call (v_cons (v_call (v_cons (v_call (v_cons (v_var rfl) v_nil) (ev_many_in _)) (v_cons (v_new (v_lcF (f := enc) (p := fun l : Lot => !decide (d + 1 < (l.length : Int))) (v_items (v_call (v_cons (v_var rfl) v_nil) (ev_faces_by n ts hb.n7))) fun l hl => ⟨_, rfl, ?_, v_var rfl⟩)) v_nil)) (ev_complex_of _ _ ?_)) v_nil) (ev_checked _ _ ht)))))
  · exact v_tbool (v_bin (v_call (v_cons (v_var rfl) v_nil) (w_len l)) (v_bin (v_var rfl) (v_cI 1) (w_addI _ _)) (ev_le _ _))
  · have := facesOf_len ts hb.n7
    have := List.length_filter_le (fun l : Lot => !decide (d + 1 < (l.length : Int))) (facesOf n ts)
    omega
end K09
end

section
set_option Elab.async false
set_option linter.all false
set_option maxRecDepth 100000
set_option maxHeartbeats 2000000
namespace K09
open PySem DD MM
open Dat (enc)

theorem w_max (ns : List Int) (m : Int) (h : maxI ns = some m) : c_max1 [.list (ns.map enc)] = some (enc m) := by
  show (ints? _).bind _ = _
  rw [ints_enc]
  show (maxI ns).map PyData.int = _
  rw [h]; rfl
/-- the greatest dimension -/
def dimOf (ts : List Lot) : Int := (maxI (ts.map (fun t => (t.length : Int)) ++ [0])).getD 0 - 1
theorem ev_dimension_of (m : Int) (ts : List Lot) (hz : ts.length ≤ 1000000) : o_dimension_of [enc (⟨m, ts⟩ : Bd)] = some (enc (dimOf ts)) := by
  unfold o_dimension_of sf_dimension_of dimOf
  have hm : ∃ k, maxI (ts.map (fun t : Lot => (t.length : Int)) ++ [0]) = some k := by
    cases ts with
    | nil => exact ⟨_, rfl⟩
    | cons t ts => exact ⟨_, rfl⟩
  obtain ⟨k, hk⟩ := hm
  rw [hk]
  refine v_run rfl (v_ret (v_bin (v_call (v_cons (v_bin (v_new (v_lcM (v_items (v_bin (v_var rfl) (v_cI 2) (w_ixt _))) fun t ht => ⟨_, rfl, ?_⟩)) (v_lst (v_cons (v_cI 0) v_nil) one_le) (w_add (ts.map fun t : Lot => (t.length : Int)) [0] ?_)) v_nil) (w_max _ k hk)) (v_cI 1) (w_subI _ _)))
  · exact v_call (v_cons (v_var rfl) v_nil) (w_len t)
  · rw [List.length_map]; show ts.length + 1 ≤ _; omega
/-- how many faces there are of each dimension -/
def counts (n : Nat) (ts : List Lot) : List Int := (List.range (dimOf ts + 1).toNat).map fun i => ((facesAt n ts ((0 : Int) + (i : Nat))).length : Int)
theorem ev_counts_by (n : Nat) (ts : List Lot) (hn : n ≤ 7) (hz : ts.length ≤ 1000000) (hd : dimOf ts + 1 ≤ 1000000) (hd' : -1000000 ≤ dimOf ts + 1) : o_counts_by [enc (bd n ts)] = some (enc (counts n ts)) := by
  unfold o_counts_by sf_counts_by
  refine v_run rfl (v_ret (v_new (v_lcM (f := fun i : Nat => enc ((0 : Int) + (i : Nat))) (g := fun i : Nat => ((facesAt n ts ((0 : Int) + (i : Nat))).length : Int)) (v_range1 (v_cons (v_bin (v_call (v_cons (v_var rfl) v_nil) (ev_dimension_of _ _ hz)) (v_cI 1) (w_addI _ _)) v_nil) hd hd') fun i hi => ⟨_, rfl, ?_⟩)))
  exact v_call (v_cons (v_call (v_cons (v_var rfl) (v_cons (v_var rfl) v_nil)) (ev_faces_at n ts _ hn)) v_nil) (w_len _)
/-- the sum with signs in turn -/
def euler (cs : List Int) : Int := ((enumI 0 cs).map fun p => if p.1 = 0 ∨ p.1 = 2 ∨ p.1 = 4 ∨ p.1 = 6 then p.2 else 0 - p.2).sum
theorem in0246 (i : Int) : o_in (enc i) (.tuple [enc (0 : Int), enc (2 : Int), enc (4 : Int), enc (6 : Int)]) = some (enc (decide (i = 0 ∨ i = 2 ∨ i = 4 ∨ i = 6))) := by
  show some (PyData.bool (((0 : Int) == i) || (((2 : Int) == i) || (((4 : Int) == i) || (((6 : Int) == i) || false))))) = some (PyData.bool _)
  congr 2
  rw [Bool.eq_iff_iff]
  simp only [Bool.or_eq_true, beq_iff_eq, Bool.or_false, decide_eq_true_eq]
  omega
theorem ev_euler_by (n : Nat) (ts : List Lot) (hn : n ≤ 7) (hz : ts.length ≤ 1000000) (hd : dimOf ts + 1 ≤ 1000000) (hd' : -1000000 ≤ dimOf ts + 1) : o_euler_by [enc (bd n ts)] = some (enc (euler (counts n ts))) := by
  unfold o_euler_by sf_euler_by
  refine v_run rfl (v_ret (v_call (v_cons (v_new (v_lcM (f := fun p : Int × Int => enc p) (f' := enc) (g := fun p : Int × Int => if p.1 = 0 ∨ p.1 = 2 ∨ p.1 = 4 ∨ p.1 = 6 then p.2 else 0 - p.2) (v_enum (v_cons (v_call (v_cons (v_var rfl) v_nil) (ev_counts_by n ts hn hz hd hd')) v_nil)) ?_)) v_nil) (w_sum _)))
  intro p hp
  refine ⟨_, bind_pair 1 2 p _, ?_⟩
  have := v_eif (ρ := (List.set (wipeE (startE 3 [enc (bd n ts)]) [1, 2]) 1 (.im (enc p.1))).set 2 (.im (enc p.2))) (f := e_var 2) (g := e_bin (o_int p_sub) (e_c (.int 0)) (e_var 2)) (d := enc p.2) (e := enc (0 - p.2)) (v_tbool (v_bin (f := e_var 1) (g := e_tup (l_cons (e_c (.int 0)) (l_cons (e_c (.int 2)) (l_cons (e_c (.int 4)) (l_cons (e_c (.int 6)) l_nil))))) (v_var rfl) (v_tup (v_cons (v_cI 0) (v_cons (v_cI 2) (v_cons (v_cI 4) (v_cons (v_cI 6) v_nil))))) (in0246 p.1))) (fun _ => v_var rfl) (fun _ => v_bin (v_cI 0) (v_var rfl) (w_subI _ _))
  refine this.trans ?_
  congr 1
  by_cases h : p.1 = 0 ∨ p.1 = 2 ∨ p.1 = 4 ∨ p.1 = 6
  · rw [if_pos (decide_eq_true h), if_pos h]
  · rw [if_neg (by rw [decide_eq_false h]; exact Bool.false_ne_true), if_neg h]
theorem maxI_le {ns : List Int} {k b : Int} (h : maxI ns = some k) (hb : ∀ x ∈ ns, x ≤ b) : k ≤ b := by
  cases ns with
  | nil => cases h
  | cons n ns => cases h; exact hb _ (maxF_mem ns n)
theorem maxI_ge {ns : List Int} {k : Int} (h : maxI ns = some k) : ∀ x ∈ ns, x ≤ k := by
  cases ns with
  | nil => cases h
  | cons n ns => cases h; exact maxF_le ns n
theorem dim_bounds {n : Nat} {ts : List Lot} (h : ∀ t ∈ ts, IsLot (n : Int) t) (hn : n ≤ 7) : 0 ≤ dimOf ts + 1 ∧ dimOf ts + 1 ≤ 7 ∧ ∀ t ∈ ts, (t.length : Int) ≤ dimOf ts + 1 := by
  unfold dimOf
  have hm : ∃ k, maxI (ts.map (fun t : Lot => (t.length : Int)) ++ [0]) = some k := by
    cases ts with
    | nil => exact ⟨_, rfl⟩
    | cons t ts => exact ⟨_, rfl⟩
  obtain ⟨k, hk⟩ := hm
  rw [hk]
  show 0 ≤ k - 1 + 1 ∧ k - 1 + 1 ≤ 7 ∧ ∀ t ∈ ts, (t.length : Int) ≤ k - 1 + 1
  have h0 := maxI_ge hk 0 (List.mem_append_right _ (List.mem_singleton.mpr rfl))
  have h7 : k ≤ 7 := maxI_le hk fun x hx => by
    rcases List.mem_append.mp hx with q | q
    · obtain ⟨t, ht, rfl⟩ := List.mem_map.mp q
      have := (h t ht).len'
      omega
    · rw [List.mem_singleton.mp q]; omega
  refine ⟨by omega, by omega, fun t ht => ?_⟩
  have := maxI_ge hk (t.length : Int) (List.mem_append_left _ (List.mem_map.mpr ⟨t, ht, rfl⟩))
  omega
theorem ev_face_counts {n : Nat} {ts : List Lot} (h : OkB n ts) : o_face_counts [enc (bd n ts)] = some (enc (counts n ts)) := by
  obtain ⟨d0, d7, _⟩ := dim_bounds h.tops.lot h.n7
  have := h.len
  unfold o_face_counts sf_face_counts
  exact v_run rfl (v_seq (v_drop (v_call (v_cons (v_var rfl) v_nil) (ev_check_complex h))) (v_ret (v_call (v_cons (v_var rfl) v_nil) (ev_counts_by n ts h.n7 (by omega) (by omega) (by omega)))))
theorem ev_euler_number {n : Nat} {ts : List Lot} (h : OkB n ts) : o_euler_number [enc (bd n ts)] = some (enc (euler (counts n ts))) := by
  obtain ⟨d0, d7, _⟩ := dim_bounds h.tops.lot h.n7
  have := h.len
  unfold o_euler_number sf_euler_number
  exact v_run rfl (v_seq (v_drop (v_call (v_cons (v_var rfl) v_nil) (ev_check_complex h))) (v_ret (v_call (v_cons (v_var rfl) v_nil) (ev_euler_by n ts h.n7 (by omega) (by omega) (by omega)))))
/-- have all tops one size -/
def evenB (ts : List Lot) : Bool := ts.all fun t => decide ((t.length : Int) = ((ts.getD 0 []).length : Int))
theorem ev_is_even_topped {n : Nat} {ts : List Lot} (h : OkB n ts) : o_is_even_topped [enc (bd n ts)] = some (enc (evenB ts)) := by
  have e : o_is_even_topped [enc (bd n ts)] = some (enc ((ts.map fun t => decide ((t.length : Int) = ((ts.getD 0 []).length : Int))).all id)) := by
    unfold o_is_even_topped sf_is_even_topped
    refine v_run rfl (v_seq (v_drop (v_call (v_cons (v_var rfl) v_nil) (ev_check_complex h))) (v_ret (v_call (v_cons (v_new (v_lcM (v_items (v_bin (v_var rfl) (v_cI 2) (w_ixt _))) fun t ht => ⟨_, rfl, ?_⟩)) v_nil) (w_all _))))
    have a0 : 0 < ts.length := List.length_pos_of_mem ht
    have g0 : ts.getD 0 [] = ts[0] := by simp [List.getD, List.getElem?_eq_getElem a0]
    rw [g0]
    exact v_bin (v_call (v_cons (v_var rfl) v_nil) (w_len t)) (v_call (v_cons (v_bin (v_bin (v_var rfl) (v_cI 2) (w_ixt _)) (v_cI 0) (w_ix ts 0 0 rfl a0)) v_nil) (w_len _)) (ev_eq _ _)
  rw [e, List.all_map]; rfl
/-- the points of a lot that aren't in a face -/
def restOf (t f : Lot) : Lot := t.filter fun x => !memB x f
theorem ev_rest_of (t f : Lot) : o_rest_of [enc t, enc f] = some (enc (restOf t f)) := by
  unfold o_rest_of sf_rest_of
  refine v_run rfl (v_ret (v_new (v_lcF (f := enc) (p := fun x : Int => !memB x f) (v_items (v_var rfl)) fun x hx => ⟨_, rfl, ?_, v_var rfl⟩)))
  exact v_tbool (v_bin (v_var rfl) (v_var rfl) (ev_notin _ _))
def linkL (ts : List Lot) (f : Lot) : List Lot := (ts.filter fun t => sub f t).map fun t => restOf t f
theorem ev_link {n : Nat} {ts : List Lot} {f : Lot} (h : OkB n ts) (hf : f ∈ facesOf n ts) : o_link [enc (bd n ts), enc f] = some (enc (bd n (topsOf (linkL ts f)))) := by
  have := h.len
  unfold o_link sf_link
  refine v_run rfl (v_seq (v_drop (v_call (v_cons (v_var rfl) v_nil) (ev_check_complex h))) (v_seq (v_drop (v_call (v_cons (v_var rfl) (v_cons (v_var rfl) v_nil)) (ev_check_face h.n7 hf))) (v_ret (v_call (v_cons (v_call (v_cons (v_var rfl) v_nil) (ev_many_in _)) (v_cons (v_new (v_lc (f := enc) (f' := enc) (fun t : Lot => sub f t) (fun t : Lot => restOf t f) (v_items (v_bin (v_var rfl) (v_cI 2) (w_ixt _))) fun t ht => ⟨_, rfl, ?_, fun _ => ?_⟩)) v_nil)) (ev_complex_of _ (linkL ts f) ?_)))))
  · exact v_tvalB (v_call (v_cons (v_var rfl) (v_cons (v_var rfl) v_nil)) (ev_is_within _ _))
  · exact v_call (v_cons (v_var rfl) (v_cons (v_var rfl) v_nil)) (ev_rest_of _ _)
  · unfold linkL
    rw [List.length_map]
    have := List.length_filter_le (fun t => sub f t) ts
    omega
def starL (ts : List Lot) (f : Lot) : List Lot := ts.filter fun t => sub f t
theorem ev_star {n : Nat} {ts : List Lot} {f : Lot} (h : OkB n ts) (hf : f ∈ facesOf n ts) : o_star [enc (bd n ts), enc f] = some (enc (bd n (topsOf (starL ts f)))) := by
  have := h.len
  unfold o_star sf_star
  refine v_run rfl (v_seq (v_drop (v_call (v_cons (v_var rfl) v_nil) (ev_check_complex h))) (v_seq (v_drop (v_call (v_cons (v_var rfl) (v_cons (v_var rfl) v_nil)) (ev_check_face h.n7 hf))) (v_ret (v_call (v_cons (v_call (v_cons (v_var rfl) v_nil) (ev_many_in _)) (v_cons (v_new (v_lcF (f := enc) (p := fun t : Lot => sub f t) (v_items (v_bin (v_var rfl) (v_cI 2) (w_ixt _))) fun t ht => ⟨_, rfl, ?_, v_var rfl⟩)) v_nil)) (ev_complex_of _ (starL ts f) ?_)))))
  · exact v_tvalB (v_call (v_cons (v_var rfl) (v_cons (v_var rfl) v_nil)) (ev_is_within _ _))
  · unfold starL
    have := List.length_filter_le (fun t => sub f t) ts
    omega
def withoutL (n : Nat) (ts : List Lot) (f : Lot) : List Lot := (facesOf n ts).filter fun l => !sub f l
theorem ev_without {n : Nat} {ts : List Lot} {f : Lot} (h : OkB n ts) (hf : f ∈ facesOf n ts) (hl : (topsOf (withoutL n ts f)).length ≤ 20) : o_without [enc (bd n ts), enc f] = some (enc (bd n (topsOf (withoutL n ts f)))) := by
  unfold o_without sf_without
  refine v_run rfl (v_seq (v_drop (v_call (v_cons (v_var rfl) v_nil) (ev_check_complex h))) (v_seq (v_drop (v_call (v_cons (v_var rfl) (v_cons (v_var rfl) v_nil)) (ev_check_face h.n7 hf))) (v_ret (v_call (v_cons (v_call (v_cons (v_call (v_cons (v_var rfl) v_nil) (ev_many_in _)) (v_cons (v_new (v_lcF (f := enc) (p := fun l : Lot => !sub f l) (v_items (v_call (v_cons (v_var rfl) v_nil) (ev_faces_by n ts h.n7))) fun t ht => ⟨_, rfl, ?_, v_var rfl⟩)) v_nil)) (ev_complex_of _ (withoutL n ts f) ?_)) v_nil) (ev_checked _ _ hl)))))
  · exact v_tnot (v_tvalB (v_call (v_cons (v_var rfl) (v_cons (v_var rfl) v_nil)) (ev_is_within _ _)))
  · unfold withoutL
    have := List.length_filter_le (fun l => !sub f l) (facesOf n ts)
    have := facesOf_len ts h.n7
    omega
theorem ev_check_alike {n : Nat} {ts us : List Lot} (h : OkB n ts) (g : OkB n us) : o_check_alike [enc (bd n ts), enc (bd n us)] = some .none := by
  unfold o_check_alike sf_check_alike
  exact v_runN rfl (v_seq (v_drop (v_call (v_cons (v_var rfl) v_nil) (ev_check_complex h))) (v_seq (v_drop (v_call (v_cons (v_var rfl) v_nil) (ev_check_complex g))) (v_ifF (v_tbool (v_bin (v_call (v_cons (v_var rfl) v_nil) (ev_many_in _)) (v_call (v_cons (v_var rfl) v_nil) (ev_many_in _)) (ev_ne (n : Int) n))) (by simp) v_snil)))
theorem ev_union {n : Nat} {ts us : List Lot} (h : OkB n ts) (g : OkB n us) (hl : (topsOf (ts ++ us)).length ≤ 20) : o_union [enc (bd n ts), enc (bd n us)] = some (enc (bd n (topsOf (ts ++ us)))) := by
  have := h.len
  have := g.len
  unfold o_union sf_union
  exact v_run rfl (v_seq (v_drop (v_call (v_cons (v_var rfl) (v_cons (v_var rfl) v_nil)) (ev_check_alike h g))) (v_ret (v_call (v_cons (v_call (v_cons (v_call (v_cons (v_var rfl) v_nil) (ev_many_in _)) (v_cons (v_bin (v_call (v_cons (v_var rfl) v_nil) (ev_tops_in _)) (v_call (v_cons (v_var rfl) v_nil) (ev_tops_in _)) (w_add ts us (by omega))) v_nil)) (ev_complex_of _ _ (by rw [List.length_append]; omega))) v_nil) (ev_checked _ _ hl))))
def meetL (n : Nat) (ts us : List Lot) : List Lot := (facesOf n ts).filter (face us)
theorem ev_meet {n : Nat} {ts us : List Lot} (h : OkB n ts) (g : OkB n us) (hl : (topsOf (meetL n ts us)).length ≤ 20) : o_meet [enc (bd n ts), enc (bd n us)] = some (enc (bd n (topsOf (meetL n ts us)))) := by
  unfold o_meet sf_meet
  refine v_run rfl (v_seq (v_drop (v_call (v_cons (v_var rfl) (v_cons (v_var rfl) v_nil)) (ev_check_alike h g))) (v_ret (v_call (v_cons (v_call (v_cons (v_call (v_cons (v_var rfl) v_nil) (ev_many_in _)) (v_cons (v_new (v_lcF (f := enc) (p := face us) (v_items (v_call (v_cons (v_var rfl) v_nil) (ev_faces_by n ts h.n7))) fun t ht => ⟨_, rfl, ?_, v_var rfl⟩)) v_nil)) (ev_complex_of _ (meetL n ts us) ?_)) v_nil) (ev_checked _ _ hl))))
  · exact v_tvalB (v_call (v_cons (v_var rfl) (v_cons (v_var rfl) v_nil)) (ev_has_face _ _ _))
  · unfold meetL
    have := List.length_filter_le (face us) (facesOf n ts)
    have := facesOf_len ts h.n7
    omega
end K09
end

section
set_option Elab.async false
set_option linter.all false
set_option maxRecDepth 100000
set_option maxHeartbeats 2000000
namespace K09
open PySem DD MM
open Dat (enc)

/-- the least lots that are no faces -/
def missStep (ts : List Lot) (f : List Lot) (l : Lot) : List Lot := if (decide (l ≠ []) && (!face ts l && !(f.any fun o => sub o l))) = true then f ++ [l] else f
def miss (n : Nat) (ts : List Lot) : List Lot := (lots n).foldl (missStep ts) []
theorem missStep_len (ts f : List Lot) (l : Lot) : (missStep ts f l).length ≤ f.length + 1 := by
  unfold missStep
  split
  · simp
  · omega
theorem ev_least_missing {n : Nat} {ts : List Lot} (h : OkB n ts) : o_least_missing [enc (bd n ts)] = some (enc (miss n ts)) := by
  unfold o_least_missing sf_least_missing
  suffices h : ∃ ρ', s_seq _ _ (startE 4 [enc (bd n ts)]) = some (.rt (enc (miss n ts)) ρ') by
    obtain ⟨ρ', h⟩ := h
    exact v_run rfl h
  rw [v_seq (v_drop (v_call (v_cons (v_var rfl) v_nil) (ev_check_complex h))) rfl]
  rw [v_seq (v_own (v_llst v_nil (by decide))) rfl]
  have hL := lots_len n
  have hp := pow_le h.n7
  refine v_forS (f := enc) (xs := lots n) (R := fun r => ∃ ρ', r = some (.rt _ ρ')) (fun i (s : List Lot) ρ => s.length ≤ i ∧ ∃ e2 e3, ρ = [.im (enc (bd n ts)), .ow (s.map enc), e2, e3]) (missStep ts) [] (v_items (v_call (v_cons (v_call (v_cons (v_var rfl) v_nil) (ev_many_in _)) v_nil) (ev_lots_of n h.n7))) ⟨Nat.le_refl _, _, _, rfl⟩ ?_ ?_
  · rintro i s ρ l hi hl ⟨hs, e2, e3, rfl⟩
    refine ⟨[.im (enc (bd n ts)), .ow (s.map enc), .im (enc l), e3], [.im (enc (bd n ts)), .ow ((missStep ts s l).map enc), .im (enc l), e3], rfl, ?_, ?_, _, _, rfl⟩
    · have ht : (t_and (t_bool (e_bin o_ne (e_var 2) (e_lst (l_nil)))) (t_and (t_not (t_val (e_call o_has_face (l_cons (e_var 0) (l_cons (e_var 2) (l_nil)))))) (t_not (t_sc (t_val (e_call c_any (l_cons (e_new (l_lc (l_items (e_var 1)) (.one 3) (fun _ => some true) (e_call o_is_within (l_cons (e_var 3) (l_cons (e_var 2) (l_nil)))) [3])) (l_nil)))))))) [.im (enc (bd n ts)), .ow (s.map enc), .im (enc l), e3] = some (decide (l ≠ []) && (!face ts l && !((s.map fun o => sub o l).any id))) := by
        refine v_tand (v_tbool (v_bin (v_var rfl) (v_lst v_nil (by decide)) (ev_ne l []))) fun _ => v_tand (v_tnot (v_tvalB (v_call (v_cons (v_var rfl) (v_cons (v_var rfl) v_nil)) (ev_has_face _ _ _)))) fun _ => v_tnot (v_tsc (v_tvalB (v_call (v_cons (v_new (v_lcM (f := enc) (xs := s) (v_itemsL (v_var rfl)) fun x hx => ⟨_, rfl, ?_⟩)) v_nil) (w_any _))))
        exact v_call (v_cons (v_var rfl) (v_cons (v_var rfl) v_nil)) (ev_is_within _ _)
      rw [List.any_map] at ht
      unfold missStep
      by_cases hc : (decide (l ≠ []) && (!face ts l && !(s.any fun o => sub o l))) = true
      · rw [if_pos hc]
        refine v_ifT ht hc ?_
        rw [v_app (ds := s.map enc) rfl (v_var rfl) (by rw [List.length_map]; omega), List.map_append]
        rfl
      · rw [if_neg hc]
        exact v_ifF ht (by simpa using hc) v_snil
    · have := missStep_len ts s l
      omega
  · rintro ρ' ⟨hs, e2, e3, rfl⟩
    exact ⟨_, v_reto rfl⟩
theorem miss_len {n : Nat} (ts : List Lot) (hn : n ≤ 7) : (miss n ts).length ≤ 128 := by
  have gen : ∀ (xs f : List Lot), (xs.foldl (missStep ts) f).length ≤ f.length + xs.length := by
    intro xs
    induction xs with
    | nil => intro f; simp
    | cons x xs ih =>
      intro f
      have h1 := ih (missStep ts f x)
      have h2 := missStep_len ts f x
      rw [List.foldl_cons, List.length_cons]
      omega
  have := gen (lots n) []
  have := lots_len n
  have := pow_le hn
  unfold miss
  simp only [List.length_nil] at *
  omega
/-- the lots within which none of some lies -/
def barL (n : Nat) (ls : List Lot) : List Lot := (lots n).filter fun l => !(ls.any fun o => sub o l)
theorem ev_complex_barring {n : Nat} {ls : List Lot} (h1 : 1 ≤ n) (h7 : n ≤ 7) (h : ∀ l ∈ ls, IsLot (n : Int) l) (hne : [] ∉ ls) (hz : ls.length ≤ 1000000) (ht : (topsOf (barL n ls)).length ≤ 20) : o_complex_barring [enc (n : Int), enc ls] = some (enc (bd n (topsOf (barL n ls)))) := by
  unfold o_complex_barring sf_complex_barring
  have hL := lots_len n
  have hp := pow_le h7
  refine v_run rfl (v_seq (v_drop (v_call (v_cons (v_var rfl) v_nil) (ev_check_many h1 h7))) (v_seq (v_drop (v_call (v_cons (v_var rfl) (v_cons (v_var rfl) v_nil)) (ev_check_lots h h7))) (v_seq (v_ifF (v_tbool (v_bin (v_lst v_nil (by decide)) (v_var rfl) (ev_in ([] : Lot) ls))) ?_ v_snil) (v_seq (v_asg (v_new (v_lcF (f := enc) (p := fun l : Lot => !(ls.any fun o => sub o l)) (v_items (v_call (v_cons (v_var rfl) v_nil) (ev_lots_of n h7))) fun l hl => ⟨_, rfl, ?_, v_var rfl⟩))) (v_ret (v_call (v_cons (v_call (v_cons (v_var rfl) (v_cons (v_var rfl) v_nil)) (ev_complex_of _ (barL n ls) ?_)) v_nil) (ev_checked _ _ ht)))))))
  · cases hb : memB [] ls with
    | false => rfl
    | true => exact absurd (memB_iff.mp hb) hne
  · refine (v_tnot (b := (ls.map fun o => sub o l).any id) (v_tvalB (v_call (v_cons (v_new (v_lcM (v_items (v_var rfl)) fun o ho => ⟨_, rfl, ?_⟩)) v_nil) (w_any _)))).trans ?_
    · exact v_call (v_cons (v_var rfl) (v_cons (v_var rfl) v_nil)) (ev_is_within _ _)
    · rw [List.any_map]; rfl
  · unfold barL
    have := List.length_filter_le (fun l : Lot => !(ls.any fun o => sub o l)) (lots n)
    omega
def flagB (n : Nat) (ts : List Lot) : Bool := (miss n ts).all fun l => !decide (2 < (l.length : Int))
theorem ev_is_flag {n : Nat} {ts : List Lot} (h : OkB n ts) : o_is_flag [enc (bd n ts)] = some (enc (flagB n ts)) := by
  have e : o_is_flag [enc (bd n ts)] = some (enc (((miss n ts).map fun l : Lot => !decide (2 < (l.length : Int))).all id)) := by
    unfold o_is_flag sf_is_flag
    refine v_run rfl (v_ret (v_call (v_cons (v_new (v_lcM (v_items (v_call (v_cons (v_var rfl) v_nil) (ev_least_missing h))) fun t ht => ⟨_, rfl, ?_⟩)) v_nil) (w_all _)))
    exact v_bin (v_call (v_cons (v_var rfl) v_nil) (w_len t)) (v_cI 2) (ev_le _ _)
  rw [e, List.all_map]; rfl
def shift (l : Lot) (m : Int) : Lot := l.map fun x => x + m
theorem ev_shifted (l : Lot) (m : Int) : o_shifted [enc l, enc m] = some (enc (shift l m)) := by
  unfold o_shifted sf_shifted
  exact v_run rfl (v_ret (v_new (v_lcM (f' := enc) (g := fun x : Int => x + m) (v_items (v_var rfl)) fun x hx => ⟨_, rfl, v_bin (v_var rfl) (v_var rfl) (w_addI _ _)⟩)))
theorem ev_check_room (k : Int) (h : k ≤ 7) : o_check_room [enc k] = some .none := by
  unfold o_check_room sf_check_room
  exact v_runN rfl (v_ifF (v_tbool (v_bin (v_var rfl) (v_cI 7) (ev_gt k 7))) (decide_eq_false (by omega)) v_snil)
theorem v_listRg {ρ : DEnv} {f : Ef} {n : Nat} (h : f ρ = some (enc (n : Int))) (hn : n ≤ 1000000) : l_listRg (rg1 f) ρ = some ((pts n).map enc) := by
  unfold l_listRg rg1
  rw [h]
  show (if (-(2 ^ 61) ≤ (0 : Int) ∧ (0 : Int) < 2 ^ 61 ∧ -(2 ^ 61) ≤ (n : Int) ∧ (n : Int) < 2 ^ 61) ∧ (n : Int) - 0 ≤ 1000000 then some (rangeD 0 ((n : Int) - 0).toNat) else none) = _
  rw [if_pos ⟨by omega, by omega⟩]
  unfold rangeD pts
  rw [List.map_map, show ((n : Int) - 0).toNat = n by omega]
  congr 1
  refine List.map_congr_left fun i hi => ?_
  show PyData.int (0 + (i : Int)) = PyData.int (i : Int)
  rw [Int.zero_add]
theorem ev_ball {n : Nat} (h1 : 1 ≤ n) (h7 : n ≤ 7) : o_ball [enc (n : Int)] = some (enc (bd n [pts n])) := by
  unfold o_ball sf_ball
  refine v_run rfl (v_seq (v_drop (v_call (v_cons (v_var rfl) v_nil) (ev_check_many h1 h7))) (v_ret ?_))
  exact v_tup (v_cons rfl (v_cons (v_var rfl) (v_cons (v_lst (v_cons (v_new (v_listRg (v_var rfl) (by omega))) v_nil) one_le) v_nil)))
theorem ev_sphere {n : Nat} (h1 : 1 ≤ n) (h7 : n ≤ 7) : o_sphere [enc (n : Int)] = some (enc (bd n (topsOf ((lots n).filter fun l => decide ((l.length : Int) = (n : Int) - 1))))) := by
  unfold o_sphere sf_sphere
  have hL := lots_len n
  have hp := pow_le h7
  refine v_run rfl (v_seq (v_drop (v_call (v_cons (v_var rfl) v_nil) (ev_check_many h1 h7))) (v_ret (v_call (v_cons (v_var rfl) (v_cons (v_new (v_lcF (f := enc) (p := fun l : Lot => decide ((l.length : Int) = (n : Int) - 1)) (v_items (v_call (v_cons (v_var rfl) v_nil) (ev_lots_of n h7))) fun l hl => ⟨_, rfl, ?_, v_var rfl⟩)) v_nil)) (ev_complex_of _ _ ?_))))
  · exact v_tbool (v_bin (v_call (v_cons (v_var rfl) v_nil) (w_len l)) (v_bin (v_var rfl) (v_cI 1) (w_subI _ _)) (ev_eq _ _))
  · have := List.length_filter_le (fun l : Lot => decide ((l.length : Int) = (n : Int) - 1)) (lots n)
    omega

def padT (ts : List Lot) : List Lot := if ts = [] then [[]] else ts
theorem v_pad {ρ : DEnv} {f : Ef} {ts : List Lot} (h : f ρ = some (enc ts)) (hz : ts.length ≤ 1000) : e_bin o_add f (e_bin o_mult (e_lst (l_cons (e_lst (l_nil)) (l_nil))) (e_call c_int (l_cons (e_bin o_eq f (e_lst (l_nil))) (l_nil)))) ρ = some (enc (padT ts)) := by
  have h2 : e_bin o_mult (e_lst (l_cons (e_lst (l_nil)) (l_nil))) (e_call c_int (l_cons (e_bin o_eq f (e_lst (l_nil))) (l_nil))) ρ = some (enc (if ts = [] then [([] : Lot)] else [])) := by
    refine v_bin (v_lst (v_cons (v_lst v_nil (by decide)) v_nil) (by decide)) (v_call (v_cons (v_bin h (v_lst v_nil (by decide)) (ev_eq ts [])) v_nil) (r := enc (if ts = [] then (1 : Int) else 0)) ?_) ?_
    · show some (PyData.int (if decide (ts = []) = true then 1 else 0)) = _
      by_cases e : ts = []
      · rw [if_pos e, if_pos (decide_eq_true e)]; rfl
      · rw [if_neg e, if_neg (by rw [decide_eq_false e]; exact Bool.false_ne_true)]; rfl
    · by_cases e : ts = []
      · rw [if_pos e, if_pos e]
        show (if (-(2 ^ 63) ≤ (1 : Int) ∧ (1 : Int) < 2 ^ 63) ∧ 1 * (1 : Int).toNat ≤ sizeLine then some (PyData.list (List.replicate (1 : Int).toNat [enc ([] : Lot)]).flatten) else none) = _
        rw [if_pos ⟨by omega, by rw [PySem.sizeLine_eq]; decide⟩]; rfl
      · rw [if_neg e, if_neg e]
        show (if (-(2 ^ 63) ≤ (0 : Int) ∧ (0 : Int) < 2 ^ 63) ∧ 1 * (0 : Int).toNat ≤ sizeLine then some (PyData.list (List.replicate (0 : Int).toNat [enc ([] : Lot)]).flatten) else none) = _
        rw [if_pos ⟨by omega, by rw [PySem.sizeLine_eq]; decide⟩]; rfl
  refine (v_bin h h2 (w_add ts _ ?_)).trans ?_
  · by_cases e : ts = []
    · rw [if_pos e]; show ts.length + 1 ≤ _; omega
    · rw [if_neg e]; show ts.length + 0 ≤ _; omega
  · unfold padT
    by_cases e : ts = []
    · rw [if_pos e, if_pos e, e]; rfl
    · rw [if_neg e, if_neg e, List.append_nil]
theorem padT_len (ts : List Lot) : (padT ts).length ≤ ts.length + 1 := by
  unfold padT
  split
  · show 1 ≤ _; omega
  · omega
/-- the tops of the join -/
def joinL (m : Int) (ts us : List Lot) : List Lot := (padT ts).foldl (fun f t => f ++ (padT us).map fun o => t ++ shift o m) []
theorem ev_joined_by (n : Nat) (ts us : List Lot) (k : Int) (hz : ts.length ≤ 100) (hu : us.length ≤ 100) (hb : ∀ t ∈ ts, t.length ≤ 7) (hc : ∀ t ∈ us, t.length ≤ 7) (hl : (topsOf (joinL n ts us)).length ≤ 20) : o_joined_by [enc (bd n ts), enc k, enc us] = some (enc (⟨(n : Int) + k, topsOf (joinL n ts us)⟩ : Bd)) := by
  unfold o_joined_by sf_joined_by
  suffices h : ∃ ρ', s_seq _ _ (startE 7 [enc (bd n ts), enc k, enc us]) = some (.rt (enc (⟨(n : Int) + k, topsOf (joinL n ts us)⟩ : Bd)) ρ') by
    obtain ⟨ρ', h⟩ := h
    exact v_run rfl h
  rw [v_seq (v_par_ii (v_lst v_nil (by decide)) (v_bin (v_call (v_cons (v_var rfl) v_nil) (ev_many_in _)) (v_var rfl) (w_addI _ _))) rfl]
  have p1 := padT_len ts
  have p2 := padT_len us
  have hb' : ∀ t ∈ padT ts, t.length ≤ 7 := by
    unfold padT
    split
    · intro t ht; rw [List.mem_singleton.mp ht]; decide
    · exact hb
  have hc' : ∀ t ∈ padT us, t.length ≤ 7 := by
    unfold padT
    split
    · intro t ht; rw [List.mem_singleton.mp ht]; decide
    · exact hc
  refine v_forS (f := enc) (xs := padT ts) (R := fun r => ∃ ρ', r = some (.rt _ ρ')) (fun i (s : List Lot) ρ => s.length ≤ i * 101 ∧ ∃ e5 e6, ρ = [.im (enc (bd n ts)), .im (enc k), .im (enc us), .im (enc s), .im (enc ((n : Int) + k)), e5, e6]) (fun f t => f ++ (padT us).map fun o => t ++ shift o n) [] (v_items (v_pad (v_bin (v_var rfl) (v_cI 2) (w_ixt _)) (by omega))) ⟨Nat.le_refl _, _, _, rfl⟩ ?_ ?_
  · rintro i s ρ t hi ht ⟨hs, e5, e6, rfl⟩
    have hlen : (s ++ (padT us).map fun o => t ++ shift o n).length ≤ (i + 1) * 101 := by
      rw [List.length_append, List.length_map]; omega
    refine ⟨[.im (enc (bd n ts)), .im (enc k), .im (enc us), .im (enc s), .im (enc ((n : Int) + k)), .im (enc t), e6], [.im (enc (bd n ts)), .im (enc k), .im (enc us), .im (enc (s ++ (padT us).map fun o => t ++ shift o n)), .im (enc ((n : Int) + k)), .im (enc t), e6], rfl, ?_, hlen, _, _, rfl⟩
    refine (v_asg (v_bin (v_var rfl) (v_new (v_lcM (f' := enc) (g := fun o : Lot => t ++ shift o n) (v_items (v_pad (v_var rfl) (by omega))) fun o ho => ⟨_, rfl, ?_⟩)) (w_add s ((padT us).map fun o => t ++ shift o n) (by rw [List.length_map]; omega)))).trans rfl
    have h1 := hb' t ht
    have h2 := hc' o ho
    exact v_bin (v_var rfl) (v_call (v_cons (v_var rfl) (v_cons (v_call (v_cons (v_var rfl) v_nil) (ev_many_in _)) v_nil)) (ev_shifted _ _)) (w_add t (shift o n) (by unfold shift; rw [List.length_map]; omega))
  · rintro ρ' ⟨hs, e5, e6, rfl⟩
    exact ⟨_, v_ret (v_call (v_cons (v_call (v_cons (v_var rfl) (v_cons (v_var rfl) v_nil)) (ev_complex_of _ (joinL n ts us) (by unfold joinL; omega))) v_nil) (ev_checked _ _ hl))⟩
theorem ev_join {n k : Nat} {ts us : List Lot} (h : OkB n ts) (g : OkB k us) (hr : n + k ≤ 7) (hl : (topsOf (joinL n ts us)).length ≤ 20) : o_join [enc (bd n ts), enc (bd k us)] = some (enc (bd (n + k) (topsOf (joinL n ts us)))) := by
  have h1 := h.len
  have h2 := g.len
  unfold o_join sf_join
  refine v_run rfl (v_seq (v_drop (v_call (v_cons (v_var rfl) v_nil) (ev_check_complex h))) (v_seq (v_drop (v_call (v_cons (v_var rfl) v_nil) (ev_check_complex g))) (v_seq (v_drop (v_call (v_cons (v_bin (v_call (v_cons (v_var rfl) v_nil) (ev_many_in _)) (v_call (v_cons (v_var rfl) v_nil) (ev_many_in _)) (w_addI _ _)) v_nil) (ev_check_room _ (by show (n : Int) + (k : Int) ≤ 7; omega)))) (v_ret ?_))))
  exact v_call (v_cons (v_var rfl) (v_cons (v_call (v_cons (v_var rfl) v_nil) (ev_many_in _)) (v_cons (v_call (v_cons (v_var rfl) v_nil) (ev_tops_in _)) v_nil))) (ev_joined_by n ts us k (by omega) (by omega) (fun t ht => Nat.le_trans (h.tops.lot t ht).len' h.n7) (fun t ht => Nat.le_trans (g.tops.lot t ht).len' g.n7) hl)
theorem ev_cone {n : Nat} {ts : List Lot} (h : OkB n ts) (hr : n + 1 ≤ 7) (hl : (topsOf (joinL n ts [[0]])).length ≤ 20) : o_cone [enc (bd n ts)] = some (enc (bd (n + 1) (topsOf (joinL n ts [[0]])))) := by
  have h1 := h.len
  unfold o_cone sf_cone
  refine v_run rfl (v_seq (v_drop (v_call (v_cons (v_var rfl) v_nil) (ev_check_complex h))) (v_seq (v_drop (v_call (v_cons (v_bin (v_call (v_cons (v_var rfl) v_nil) (ev_many_in _)) (v_cI 1) (w_addI _ _)) v_nil) (ev_check_room _ (by show (n : Int) + 1 ≤ 7; omega)))) (v_ret ?_)))
  exact v_call (v_cons (v_var rfl) (v_cons (v_cI 1) (v_cons (v_lst (v_cons (v_lst (v_cons (v_cI 0) v_nil) one_le) v_nil) one_le) v_nil))) (ev_joined_by n ts [[0]] 1 (by omega) (by decide) (fun t ht => Nat.le_trans (h.tops.lot t ht).len' h.n7) (fun t ht => by rw [List.mem_singleton.mp ht]; decide) hl)
theorem ev_hung {n : Nat} {ts : List Lot} (h : OkB n ts) (hr : n + 2 ≤ 7) (hl : (topsOf (joinL n ts [[0], [1]])).length ≤ 20) : o_hung [enc (bd n ts)] = some (enc (bd (n + 2) (topsOf (joinL n ts [[0], [1]])))) := by
  have h1 := h.len
  unfold o_hung sf_hung
  refine v_run rfl (v_seq (v_drop (v_call (v_cons (v_var rfl) v_nil) (ev_check_complex h))) (v_seq (v_drop (v_call (v_cons (v_bin (v_call (v_cons (v_var rfl) v_nil) (ev_many_in _)) (v_cI 2) (w_addI _ _)) v_nil) (ev_check_room _ (by show (n : Int) + 2 ≤ 7; omega)))) (v_ret ?_)))
  exact v_call (v_cons (v_var rfl) (v_cons (v_cI 2) (v_cons (v_lst (v_cons (v_lst (v_cons (v_cI 0) v_nil) one_le) (v_cons (v_lst (v_cons (v_cI 1) v_nil) one_le) v_nil)) (by show 2 ≤ _; decide)) v_nil))) (ev_joined_by n ts [[0], [1]] 2 (by omega) (by decide) (fun t ht => Nat.le_trans (h.tops.lot t ht).len' h.n7) (fun t ht => by
    rcases List.mem_cons.mp ht with e | e
    · rw [e]; decide
    · rw [List.mem_singleton.mp e]; decide) hl)

def nameAt (names : List Int) (p : Int) : Int := names.getD p.toNat 0
def renL (names : List Int) (ts : List Lot) : List Lot := isort (ts.map fun t => isort (t.map (nameAt names)))
theorem ev_renamed {n : Nat} {ts : List Lot} {names : List Int} (h : OkB n ts) (hn : isort names = pts n) : o_renamed [enc (bd n ts), enc names] = some (enc (bd n (renL names ts))) := by
  have hlen : names.length = n := by rw [← isort_len names, hn, pts_len]
  unfold o_renamed sf_renamed
  refine v_run rfl (v_seq (v_drop (v_call (v_cons (v_var rfl) v_nil) (ev_check_complex h))) (v_seq (v_ifF (v_tor (v_tnot (v_tvalB (v_isi (v_var rfl) rfl))) fun _ => v_tnot (v_tvalB (v_call (v_cons (v_new (v_lcM (g := fun _ : Int => true) (v_items (v_var rfl)) fun x hx => ⟨_, rfl, v_call (v_cons (v_var rfl) v_nil) (ev_is_whole x)⟩)) v_nil) (w_all _)))) ?_ v_snil) (v_seq (v_ifF (v_tbool (v_bin (v_new (v_lcall (v_cons (v_var rfl) v_nil) (ev_sorted names))) (v_new (v_listRg (v_call (v_cons (v_var rfl) v_nil) (ev_many_in _)) (by have := h.n7; omega))) (ev_ne (isort names) (pts n)))) ?_ v_snil) (v_ret ?_))))
  · have : ((names.map fun _ => true).all id) = true := by
      rw [List.all_map, List.all_eq_true]
      exact fun _ _ => rfl
    rw [this]; rfl
  · rw [hn]; simp
  · refine v_tup (v_cons rfl (v_cons (v_call (v_cons (v_var rfl) v_nil) (ev_many_in _)) (v_cons (v_new (v_lcall (v_cons (v_new (v_lcM (f' := enc) (g := fun t : Lot => isort (t.map (nameAt names))) (v_items (v_bin (v_var rfl) (v_cI 2) (w_ixt _))) fun t ht => ⟨_, rfl, ?_⟩)) v_nil) (ev_sorted _))) v_nil)))
    refine v_new (v_lcall (v_cons (v_new (v_lcM (f' := enc) (g := nameAt names) (v_items (v_var rfl)) fun p hp => ⟨_, rfl, ?_⟩)) v_nil) (ev_sorted _))
    have hr := (h.tops.lot t ht).rng p hp
    obtain ⟨k, rfl⟩ := Int.eq_ofNat_of_zero_le hr.1
    have hk : k < names.length := by omega
    have e : nameAt names (k : Int) = names[k] := by unfold nameAt; rw [Int.toNat_natCast]; simp [List.getD, List.getElem?_eq_getElem hk]
    rw [e]
    exact v_bin (v_var rfl) (v_var rfl) (w_ix names _ k rfl hk)
end K09
end

section
set_option Elab.async false
set_option linter.all false
set_option maxRecDepth 100000
set_option maxHeartbeats 2000000
namespace K09
open PySem DD MM
open Dat (enc)

/-- what a generator holds; B: at most so many draws -/
structure Gn (B : Nat) (g : List Da) : Prop where
  ex : ∃ x y z : Int, g = [enc x, enc y, enc z] ∧ 0 ≤ x ∧ 0 ≤ y ∧ y < 2147483648 ∧ 0 ≤ z ∧ z ≤ B
theorem w_mult (i j : Int) (h : (-(2 ^ 64) < i ∧ i < 2 ^ 64) ∨ (-(2 ^ 64) < j ∧ j < 2 ^ 64)) : o_mult (enc i) (enc j) = some (enc (i * j)) := by
  show (p_mul i j).map PyData.int = _
  unfold p_mul
  rw [if_pos h]; rfl
theorem w_mod (i j : Int) (h : 0 < j) : o_int p_mod (enc i) (enc j) = some (enc (i % j)) := by
  show (p_mod i j).map PyData.int = _
  unfold p_mod
  rw [if_neg (by omega), Int.fmod_eq_emod_of_nonneg i (by omega)]; rfl
theorem w_fdiv (i j : Int) (h : 0 < j) (h2 : j < 1073741824) : o_int p_fdiv (enc i) (enc j) = some (enc (i / j)) := by
  show (p_fdiv i j).map PyData.int = _
  unfold p_fdiv
  rw [if_pos ⟨h, h2⟩]; rfl
theorem w_int (i : Int) : c_int [enc i] = some (enc i) := rfl
theorem mod_rng (i : Int) {j : Int} (h : 0 < j) : 0 ≤ i % j ∧ i % j < j := ⟨Int.emod_nonneg _ (by omega), Int.emod_lt_of_pos _ h⟩
theorem ev_hash (s i : Int) (hs : 0 ≤ s ∧ s < 2147483648) (hi : 0 ≤ i ∧ i < 2 ^ 60) : ∃ h : Int, o__law_hash [enc s, enc i] = some (enc h) ∧ 0 ≤ h ∧ h < 2147483648 := by
  obtain ⟨a1, a2⟩ := mod_rng (s * 48271 + i * 69621 + 11) (j := 2147483647) (by omega)
  have hm : ∃ a : Int, a = (s * 48271 + i * 69621 + 11) % 2147483647 := ⟨_, rfl⟩
  obtain ⟨a, ha⟩ := hm
  rw [← ha] at a1 a2
  obtain ⟨b1, b2⟩ := mod_rng (a * a + 62089 * i + 131) (j := 2147483629) (by omega)
  have hm : ∃ b : Int, b = (a * a + 62089 * i + 131) % 2147483629 := ⟨_, rfl⟩
  obtain ⟨b, hb⟩ := hm
  rw [← hb] at b1 b2
  obtain ⟨c1, c2⟩ := mod_rng (b * (b + 40692)) (j := 2147483587) (by omega)
  refine ⟨b * (b + 40692) % 2147483587, ?_, c1, by omega⟩
  unfold o__law_hash sf__law_hash
  suffices h : ∃ ρ', s_seq _ _ (startE 3 [enc s, enc i]) = some (.rt (enc (b * (b + 40692) % 2147483587)) ρ') by
    obtain ⟨ρ', h⟩ := h
    exact v_run rfl h
  rw [v_seq (v_asg (v_bin (v_call (v_cons (v_bin (v_bin (v_bin (v_var rfl) (v_cI _) (w_mult s 48271 (by omega))) (v_bin (v_var rfl) (v_cI _) (w_mult i 69621 (by omega))) (w_addI _ _)) (v_cI 11) (w_addI _ _)) v_nil) (w_int _)) (v_cI _) ((w_mod _ 2147483647 (by omega)).trans (by rw [← ha])))) rfl]
  rw [v_seq (v_asg (v_bin (v_call (v_cons (v_bin (v_bin (v_bin (v_var rfl) (v_var rfl) (w_mult a a (by omega))) (v_bin (v_cI _) (v_var rfl) (w_mult 62089 i (by omega))) (w_addI _ _)) (v_cI 131) (w_addI _ _)) v_nil) (w_int _)) (v_cI _) ((w_mod _ 2147483629 (by omega)).trans (by rw [← hb])))) rfl]
  exact ⟨_, v_ret (v_bin (v_call (v_cons (v_bin (v_var rfl) (v_bin (v_var rfl) (v_cI _) (w_addI _ _)) (w_mult b (b + 40692) (by omega))) v_nil) (w_int _)) (v_cI _) (w_mod _ 2147483587 (by omega)))⟩

theorem v_bits {ρ : DEnv} {f : Ef} {i : Int} (h : f ρ = some (enc i)) : e_bits f ρ = some (enc ((Builtin.Int.intBits i : Nat) : Int)) := by unfold e_bits; rw [h]; rfl
theorem rand {B : Nat} {g : List Da} (hg : Gn B g) (hB : B < 2 ^ 50) (b : Int) (h1 : 1 ≤ b) (hb : b < 2 ^ 20) : ∃ (v : Int) (g' : List Da), o__law_random g [enc b] = some (.ok (enc v), g') ∧ 0 ≤ v ∧ v < b ∧ Gn (B + 1) g' := by
  obtain ⟨x, y, z, rfl, hx, hy, hy2, hz, hz2⟩ := hg.ex
  unfold o__law_random sf__law_random
  by_cases hpos : 0 < x
  · refine ⟨x % b, [enc (x / b), enc y, enc z], ?_, (mod_rng x (by omega)).1, (mod_rng x (by omega)).2, ⟨_, _, _, rfl, Int.ediv_nonneg hx (by omega), hy, hy2, hz, by omega⟩⟩
    have hi0 : ∀ e2 e3 : Ent, (thaw [.gn [enc x, enc y, enc z], .im (enc b), e2, e3])[(0 : Nat)]? = some (.im (enc [x, y, z])) := fun _ _ => rfl
    refine runGE (ρ := [.gn [enc (x / b), enc y, enc z], .im (enc b), .im (enc (x % b)), .no]) rfl (s_seqR (s_ifT (x_ofE (v_tsc (v_tbool (v_bin (v_bin (v_var (hi0 _ _)) (v_cI 0) (w_ix [x, y, z] 0 0 rfl (Nat.lt_of_sub_pos (by decide : 0 < 3 - 0)))) (v_cI 0) (ev_gt x 0))))) (decide_eq_true hpos) ?_)) rfl
    refine s_seqE (s_ofE (v_asg (v_esc (α := Int) (v_bin (v_call (v_cons (v_bin (v_var (hi0 _ _)) (v_cI 0) (w_ix [x, y, z] 0 0 rfl (Nat.lt_of_sub_pos (by decide : 0 < 3 - 0)))) v_nil) (w_int _)) (v_var rfl) (w_mod x b (by omega))) rfl))) ?_
    refine s_seqE (s_putE (j := 0) (gs := [enc x, enc y, enc z]) (x_ofE (v_esc (α := Int) (v_bin (v_bin (v_var (hi0 _ _)) (v_cI 0) (w_ix [x, y, z] 0 0 rfl (Nat.lt_of_sub_pos (by decide : 0 < 3 - 0)))) (v_var rfl) (w_fdiv x b (by omega) (by omega))) rfl)) rfl rfl rfl) ?_
    exact s_ofE (v_ret (v_var rfl))
  · have hbits : (Builtin.Int.intBits b : Nat) ≤ 20 := PyProof.Rows.intBits_le (by omega)
    obtain ⟨hv, hh, hh1, hh2⟩ := ev_hash y (z + 1) ⟨hy, hy2⟩ ⟨by omega, by omega⟩
    have hi0 : ∀ (zz : Int) (e2 e3 : Ent), (thaw [.gn [enc x, enc y, enc zz], .im (enc b), e2, e3])[(0 : Nat)]? = some (.im (enc [x, y, zz])) := fun _ _ _ => rfl
    refine ⟨(0 * 2147483587 + hv) % b, [enc x, enc y, enc (z + 1)], ?_, (mod_rng _ (by omega)).1, (mod_rng _ (by omega)).2, ⟨_, _, _, rfl, hx, hy, hy2, by omega, by omega⟩⟩
    refine runGE (ρ := [.gn [enc x, enc y, enc (z + 1)], .im (enc b), .im (enc ((0 * 2147483587 : Int) + hv)), .im (enc (0 : Int))]) rfl (s_seqE (s_ifE (x_ofE (v_tsc (v_tbool (v_bin (v_bin (v_var (hi0 _ _ _)) (v_cI 0) (w_ix [x, y, z] 0 0 rfl (Nat.lt_of_sub_pos (by decide : 0 < 3 - 0)))) (v_cI 0) (ev_gt x 0))))) (decide_eq_false hpos) rfl) ?_) rfl
    refine s_seqE (s_ofE (v_asg (v_cI 0))) ?_
    have hturns : ((1 : Int) + ((Builtin.Int.intBits b : Nat) : Int) / 30).toNat = 1 := by omega
    have hit : x_of (l_range1 (l_cons (e_bin o_add (e_c (.int 1)) (e_bin (o_int p_fdiv) (e_bits (e_var 1)) (e_c (.int 30)))) (l_nil))) [.gn [enc x, enc y, enc z], .im (enc b), .im (enc (0 : Int)), .no] = some (.ok ((List.range 1).map fun i => enc ((0 : Int) + (i : Nat))) [.gn [enc x, enc y, enc z], .im (enc b), .im (enc (0 : Int)), .no]) := by
      refine x_ofE ((v_range1 (v_cons (v_bin (v_cI 1) (v_bin (v_bits (v_var rfl)) (v_cI 30) (w_fdiv _ 30 (by omega) (by omega))) (w_addI _ _)) v_nil) (by omega) (by omega)).trans ?_)
      rw [hturns]
    have hbody : (sx_seq (sx_put 0 2 (x_of (e_sc (e_bin o_add (e_bin o_ix (e_var 0) (e_c (.int 2))) (e_c (.int 1)))))) (sx_of (s_asg 2 (e_sc (e_bin o_add (e_bin o_mult (e_var 2) (e_c (.int 2147483587))) (e_call o__law_hash (l_cons (e_bin o_ix (e_var 0) (e_c (.int 1))) (l_cons (e_bin o_ix (e_var 0) (e_c (.int 2))) (l_nil))))))))) [.gn [enc x, enc y, enc z], .im (enc b), .im (enc (0 : Int)), .im (enc (0 : Int))] = some (.fl (.nx [.gn [enc x, enc y, enc (z + 1)], .im (enc b), .im (enc ((0 * 2147483587 : Int) + hv)), .im (enc (0 : Int))])) := by
      refine s_seqE (s_putE (j := 2) (gs := [enc x, enc y, enc z]) (x_ofE (v_esc (α := Int) (v_bin (v_bin (v_var (hi0 _ _ _)) (v_cI 2) (w_ix [x, y, z] 2 2 rfl (Nat.lt_of_sub_pos (by decide : 0 < 3 - 2)))) (v_cI 1) (w_addI _ _)) rfl)) rfl rfl rfl) ?_
      refine s_ofE (v_asg (v_esc (α := Int) (v_bin (v_bin (v_var rfl) (v_cI _) (w_mult 0 2147483587 (by omega))) (v_call (v_cons (v_bin (v_var (hi0 (z + 1) _ _)) (v_cI 1) (w_ix [x, y, z + 1] 1 1 rfl (Nat.lt_of_sub_pos (by decide : 0 < 3 - 1)))) (v_cons (v_bin (v_var (hi0 (z + 1) _ _)) (v_cI 2) (w_ix [x, y, z + 1] 2 2 rfl (Nat.lt_of_sub_pos (by decide : 0 < 3 - 2)))) v_nil)) hh) (w_addI _ _)) rfl))
    refine s_seqE (ρ1 := [.gn [enc x, enc y, enc (z + 1)], .im (enc b), .im (enc ((0 * 2147483587 : Int) + hv)), .im (enc (0 : Int))]) ?_ ?_
    · exact s_for1 hit rfl hbody
    · exact s_ofE (v_ret (v_bin (v_call (v_cons (v_var rfl) v_nil) (w_int _)) (v_var rfl) (w_mod _ b (by omega))))
end K09
end

section
set_option Elab.async false
set_option linter.all false
set_option maxRecDepth 100000
set_option maxHeartbeats 2000000
namespace K09
open PySem DD MM
open Dat (enc)

/-! the generator -/
theorem cell_ix (ns : List Int) (i : Nat) (h : i < ns.length) : o_ix (scD ns) (enc (i : Int)) = some (enc ns[i]) := by
  have := w_ix ns (i : Int) i rfl h
  exact this
theorem ev_cell (ns : List Int) (i : Nat) (hz : ns.length ≤ 63) : ∃ v : Int, o__law_cell [scD ns, enc (i : Int)] = some (enc v) := by
  unfold o__law_cell sf__law_cell
  by_cases h : i < ns.length
  · refine ⟨ns[i], v_run rfl (v_seqR (v_ifT (v_tbool (v_bin (v_var rfl) (v_call (v_cons (v_var rfl) v_nil) (r := enc (ns.length : Int)) ?_) (ev_lt (i : Int) ns.length))) (decide_eq_true (by omega)) (v_ret (v_bin (v_var rfl) (v_var rfl) (cell_ix ns i h)))))⟩
    show some (PyData.int ((ns.map PyData.int).length : Int)) = _
    rw [List.length_map]; rfl
  · refine ⟨(ns.take 1).sum % 1000003, ?_⟩
    refine v_run rfl (v_seq (v_ifF (v_tbool (v_bin (v_var rfl) (v_call (v_cons (v_var rfl) v_nil) (r := enc (ns.length : Int)) ?_) (ev_lt (i : Int) ns.length))) (decide_eq_false (by omega)) v_snil) (v_ret (v_bin (v_call (v_cons (v_cut (r := enc (ns.take 1)) (v_var rfl) v_pno (v_pat (v_cI 1)) ?_) v_nil) (w_sum _)) (v_cI _) (w_mod _ 1000003 (by omega)))))
    · show some (PyData.int ((ns.map PyData.int).length : Int)) = _
      rw [List.length_map]; rfl
    · have hl : (ns.map PyData.int).length ≤ sizeLine := by
        rw [List.length_map, PySem.sizeLine_eq]
        omega
      show (if (ns.map PyData.int).length ≤ sizeLine then some (PyData.list (cutL (ns.map PyData.int) none (some 1))) else none) = _
      rw [if_pos hl]
      have := w_cut ns none (some ((1 : Nat) : Int))
      rw [cut_to] at this
      exact this
theorem w_max2 (a b : Int) : c_max2 [enc a, enc b] = some (enc (if b > a then b else a)) := rfl
theorem bits_small (i : Int) (n : Nat) (h : i.natAbs < 2 ^ n) : Builtin.Int.intBits i ≤ n := PyProof.Rows.intBits_le h
theorem w_pow (i : Int) (j k : Nat) (h : i.natAbs < 2 ^ k) (hk : k * j ≤ 100000) : o_int p_pow (enc i) (enc (j : Int)) = some (enc (i ^ j)) := by
  have hb := bits_small i k h
  show (p_pow i j).map PyData.int = _
  unfold p_pow
  have h2 : (Builtin.Int.intBits i : Int) * (j : Int) ≤ 2 ^ 27 := by
    have h3 : Builtin.Int.intBits i * j ≤ k * j := Nat.mul_le_mul_right j hb
    have h4 : ((Builtin.Int.intBits i * j : Nat) : Int) ≤ 100000 := by omega
    rw [Int.natCast_mul] at h4
    omega
  rw [if_pos ⟨by omega, h2⟩, Int.toNat_natCast]; rfl
theorem ev_generator (ns : List Int) (i : Nat) (hz : ns.length ≤ 63) (hi : i ≤ 1000) : ∃ g, o__law_generator [scD ns, enc (i : Int)] = some g ∧ Gn (1000 * i) g := by
  obtain ⟨s, hs⟩ := ev_cell ns i hz
  have hp : (0 : Int) < (10 ^ 60) ^ 10 := Int.pow_pos (Int.pow_pos (by decide))
  refine ⟨[enc ((if (0 : Int) > s - 10 ^ 18 then 0 else s - 10 ^ 18) % (10 ^ 60) ^ 10), enc (s % 2147483647), enc (1000 * (i : Int))], ?_, ⟨_, _, _, rfl, (mod_rng _ hp).1, (mod_rng s (by omega)).1, by have := (mod_rng s (j := 2147483647) (by omega)).2; omega, by omega, by omega⟩⟩
  unfold o__law_generator sf__law_generator
  refine runNE (ρ := [.im (scD ns), .im (enc (i : Int)), .im (enc s)]) rfl (v_asg (v_call (v_cons (v_var rfl) (v_cons (v_var rfl) v_nil)) hs)) ?_
  refine v_llst (v_cons ?_ (v_cons ?_ (v_cons ?_ v_nil))) (by show 3 ≤ _; decide)
  · refine v_bin (v_call (v_cons (v_call (v_cons (v_bin (v_var rfl) (v_bin (v_cI 10) (v_cI 18) (w_pow 10 18 4 (by decide) (by decide))) (w_subI _ _)) (v_cons (v_cI 0) v_nil)) (w_max2 _ _)) v_nil) (w_int _)) (v_bin (v_bin (v_cI 10) (v_cI 60) (w_pow 10 60 4 (by decide) (by decide))) (v_cI 10) (w_pow (10 ^ 60) 10 200 (by decide +kernel) (by decide))) (w_mod _ _ hp)
  · exact v_bin (v_call (v_cons (v_var rfl) v_nil) (w_int _)) (v_cI _) (w_mod _ 2147483647 (by omega))
  · exact v_bin (v_cI _) (v_var rfl) (w_mult 1000 i (by omega))

theorem ev_lwithin (a b : Lot) : o__law_within [enc a, enc b] = some (enc (sub a b)) := by
  have h : o__law_within [enc a, enc b] = some (enc (decide (a.filter (fun x => !memB x b) = []))) := by
    unfold o__law_within sf__law_within
    refine v_run rfl (v_ret (v_bin (v_new (v_lcF (f := enc) (p := fun x : Int => !memB x b) (v_items (v_var rfl)) fun x hx => ⟨_, rfl, ?_, v_var rfl⟩)) (v_lst v_nil (by decide)) (ev_eq (a.filter fun x => !memB x b) [])))
    exact v_tbool (v_bin (v_var rfl) (v_var rfl) (ev_notin _ _))
  rw [h]
  congr 2
  rw [Bool.eq_iff_iff, decide_eq_true_eq, List.filter_eq_nil_iff, sub_iff]
  constructor
  · intro q x hx
    have := q x hx
    exact memB_iff.mp (by simpa using this)
  · intro q x hx
    rw [memB_iff.mpr (q x hx)]; simp
theorem lmax_eq (ls : List Lot) (l : Lot) : decide ((ls.filter fun o => decide (l ≠ o) && sub l o) = []) = !(ls.any fun o => decide (l ≠ o) && sub l o) := by
  rw [Bool.eq_iff_iff, decide_eq_true_eq, List.filter_eq_nil_iff, Bool.not_eq_true', List.any_eq_false]
theorem ev_ltops (ls : List Lot) (hz : ls.length ≤ 1000000) : o__law_tops [enc ls] = some (enc (topsOf ls)) := by
  unfold o__law_tops sf__law_tops
  suffices h : ∃ ρ', s_seq _ _ (startE 4 [enc ls]) = some (.rt (enc (topsOf ls)) ρ') by
    obtain ⟨ρ', h⟩ := h
    exact v_run rfl h
  rw [v_seq (v_own (v_llst v_nil (by decide))) rfl]
  refine v_forS (f := enc) (xs := ls) (R := fun r => ∃ ρ', r = some (.rt _ ρ')) (fun i (s : List Lot) ρ => s.length ≤ i ∧ ∃ e2 e3, ρ = [.im (enc ls), .ow (s.map enc), e2, e3]) (mxStep ls) [] (v_items (v_var rfl)) ⟨Nat.le_refl _, _, _, rfl⟩ ?_ ?_
  · rintro i s ρ l hi hl ⟨hs, e2, e3, rfl⟩
    refine ⟨[.im (enc ls), .ow (s.map enc), .im (enc l), e3], [.im (enc ls), .ow ((mxStep ls s l).map enc), .im (enc l), e3], rfl, ?_, ?_, _, _, rfl⟩
    · have ht : (t_and (t_bool (e_bin o_ne (e_var 2) (e_lst (l_nil)))) (t_and (t_sc (t_bool (e_bin o_notin (e_var 2) (e_var 1)))) (t_bool (e_bin o_eq (e_new (l_lc (l_items (e_var 0)) (.one 3) (t_and (t_bool (e_bin o_ne (e_var 2) (e_var 3))) (t_val (e_call o__law_within (l_cons (e_var 2) (l_cons (e_var 3) (l_nil)))))) (e_var 3) [3])) (e_lst (l_nil)))))) [.im (enc ls), .ow (s.map enc), .im (enc l), e3] = some (decide (l ≠ []) && (!memB l s && decide ((ls.filter fun o => decide (l ≠ o) && sub l o) = []))) := by
        refine v_tand (v_tbool (v_bin (v_var rfl) (v_lst v_nil (by decide)) (ev_ne l []))) fun _ => v_tand (v_tsc (v_tbool (v_bin (v_var rfl) (v_var rfl) (ev_notin l s)))) fun _ => v_tbool (v_bin (v_new (v_lcF (f := enc) (p := fun o : Lot => decide (l ≠ o) && sub l o) (v_items (v_var rfl)) fun x hx => ⟨_, rfl, ?_, v_var rfl⟩)) (v_lst v_nil (by decide)) (ev_eq (ls.filter fun o => decide (l ≠ o) && sub l o) []))
        exact v_tand (v_tbool (v_bin (v_var rfl) (v_var rfl) (ev_ne l x))) fun _ => v_tvalB (v_call (v_cons (v_var rfl) (v_cons (v_var rfl) v_nil)) (ev_lwithin _ _))
      rw [lmax_eq] at ht
      unfold mxStep
      by_cases hc : (decide (l ≠ []) && (!memB l s && !(ls.any fun o => decide (l ≠ o) && sub l o))) = true
      · rw [if_pos hc]
        refine v_ifT ht hc ?_
        rw [v_app (ds := s.map enc) rfl (v_var rfl) (by rw [List.length_map]; omega), List.map_append]
        rfl
      · rw [if_neg hc]
        exact v_ifF ht (by simpa using hc) v_snil
    · have := mxStep_len ls s l
      omega
  · rintro ρ' ⟨hs, e2, e3, rfl⟩
    exact ⟨_, v_ret (v_new (v_sortedo (xs := mx ls) rfl))⟩
theorem ev_pick {α : Type} [DecidableEq α] [Dat α] {B : Nat} {g : List Da} (hg : Gn B g) (hB : B < 2 ^ 50) (xs : List α) (h0 : 0 < xs.length) (hz : xs.length < 2 ^ 20) : ∃ (x : α) (g' : List Da), o__law_pick g [enc xs] = some (.ok (enc x), g') ∧ x ∈ xs ∧ Gn (B + 1) g' := by
  obtain ⟨v, g', h1, h2, h3, h4⟩ := rand hg hB (xs.length : Int) (by omega) (by omega)
  obtain ⟨k, rfl⟩ := Int.eq_ofNat_of_zero_le h2
  have hk : k < xs.length := by omega
  refine ⟨xs[k], g', ?_, List.getElem_mem hk, h4⟩
  unfold o__law_pick sf__law_pick
  refine runGE (ρ := [.gn g', .im (enc xs)]) rfl (s_retE (x_binE (x_ofE (v_var rfl)) (x_callGE (en := .gn g) (e1 := .gn g) (gs0 := g) (gs := g) rfl rfl (x_ofE (v_cons (v_call (v_cons (v_var rfl) v_nil) (w_len xs)) v_nil)) rfl rfl rfl h1) (w_ix xs _ k rfl hk))) rfl
end K09
end

section
set_option Elab.async false
set_option linter.all false
set_option maxRecDepth 100000
set_option maxHeartbeats 2000000
namespace K09
open PySem DD MM
open Dat (enc)

theorem xp_nilE {ρ : DEnv} : xp_nil ρ = some (.ok [] ρ) := rfl
theorem erase_map {α β : Type} (f : α → β) : ∀ (l : List α) (k : Nat), (l.map f).eraseIdx k = (l.eraseIdx k).map f
  | [], _ => rfl
  | a :: l, 0 => rfl
  | a :: l, k + 1 => by rw [List.map_cons, List.eraseIdx_cons_succ, List.eraseIdx_cons_succ, List.map_cons, erase_map f l k]
theorem perm_pop {α : Type} (l : List α) (k : Nat) (h : k < l.length) : l.Perm (l[k] :: l.eraseIdx k) := by
  induction l generalizing k with
  | nil => simp at h
  | cons a l ih =>
    cases k with
    | zero => exact .refl _
    | succ k =>
      have hk : k < l.length := by rw [List.length_cons] at h; omega
      exact ((ih k hk).cons a).trans (List.Perm.swap _ _ _)
theorem ev_order {α : Type} [DecidableEq α] [Dat α] {B : Nat} {g : List Da} (hg : Gn B g) (xs : List α) (hz : xs.length < 1000000) (hB : B + 2 ^ 20 < 2 ^ 50) : ∃ (ys : List α) (g' : List Da), o__law_order g [enc xs] = some (.ok (enc ys), g') ∧ ys.Perm xs ∧ Gn (B + xs.length) g' := by
  unfold o__law_order sf__law_order
  suffices h : ∃ (ys : List α) (g' : List Da) (e2 e4 : Ent), sx_seq _ _ (startG 5 g [enc xs]) = some (.fl (.rt (enc ys) [.gn g', .im (enc xs), e2, .im (enc ys), e4])) ∧ ys.Perm xs ∧ Gn (B + xs.length) g' by
    obtain ⟨ys, g', e2, e4, h1, h2, h3⟩ := h
    exact ⟨ys, g', runGE rfl h1 rfl, h2, h3⟩
  rw [s_seqE (ρ := startG 5 g [enc xs]) (s_parE (is := [2, 3]) (ps := [.ow (xs.map enc), .ow []]) (xp_owE (x_ofE (v_lcall (v_cons (v_var rfl) v_nil) (w_list xs))) (xp_owE (x_ofE (v_llst v_nil (by decide))) (xp_nilE))) rfl) rfl]
  refine s_forE (f := fun i : Nat => enc ((0 : Int) + (i : Nat))) (xs := List.range xs.length) (ρ1 := [.gn g, .im (enc xs), .ow (xs.map enc), .ow [], .no]) (R := fun r => ∃ (ys : List α) (g' : List Da) (e2 e4 : Ent), r = some (.fl (.rt (enc ys) [.gn g', .im (enc xs), e2, .im (enc ys), e4])) ∧ ys.Perm xs ∧ Gn (B + xs.length) g')
    (fun i (s : List α × List α) ρ => s.1.length = xs.length - i ∧ s.2.length = i ∧ (s.1 ++ s.2).Perm xs ∧ ∃ g' e4, Gn (B + i) g' ∧ ρ = [.gn g', .im (enc xs), .ow (s.1.map enc), .ow (s.2.map enc), e4]) (xs, []) ?_ ⟨rfl, rfl, by simp, g, _, hg, rfl⟩ ?_ ?_
  · refine x_ofE ((v_range1 (b := (xs.length : Int)) (v_cons (v_call (v_cons (v_var rfl) v_nil) (w_len xs)) v_nil) (by omega) (by omega)).trans ?_)
    rw [Int.toNat_natCast]
  · rintro i ⟨left, found⟩ ρ x hi hx ⟨hl, hf, hp, g', e4, hg', rfl⟩
    rw [List.length_range] at hi
    have hl : left.length = xs.length - i := hl
    have hf : found.length = i := hf
    obtain ⟨v, g2, h1, h2, h3, h4⟩ := rand hg' (by omega) (left.length : Int) (by omega) (by omega)
    obtain ⟨k, rfl⟩ := Int.eq_ofNat_of_zero_le h2
    have hk : k < left.length := by omega
    refine ⟨_, [.gn g2, .im (enc xs), .ow ((left.eraseIdx k).map enc), .ow ((found ++ [left[k]]).map enc), .im (enc ((0 : Int) + (x : Nat)))], (left.eraseIdx k, found ++ [left[k]]), rfl, ?_, ?_, ?_, ?_, g2, _, ?_, rfl⟩
    · have hpop : x_pop 2 (x_callG 0 1 o__law_random (x_of (l_cons (e_sc (e_call c_len (l_cons (e_var 2) (l_nil)))) (l_nil)))) [.gn g', .im (enc xs), .ow (left.map enc), .ow (found.map enc), .im (enc ((0 : Int) + (x : Nat)))] = some (.ok (enc left[k]) [.gn g2, .im (enc xs), .ow ((left.map enc).eraseIdx k), .ow (found.map enc), .im (enc ((0 : Int) + (x : Nat)))]) := by
        refine x_popE (en := .ow (left.map enc)) (e1 := .ow (left.map enc)) (gs0 := left.map enc) (gs := left.map enc) (k := (k : Int)) (j := k) rfl rfl (x_callGE (en := .gn g') (e1 := .gn g') (gs0 := g') (gs := g') rfl rfl (x_ofE (v_cons (v_esc (α := Int) (v_call (v_cons (v_var rfl) v_nil) (w_len left)) rfl) v_nil)) rfl rfl rfl h1) rfl rfl rfl ?_
        rw [List.getElem?_map, List.getElem?_eq_getElem hk]; rfl
      refine (s_appE (en := .ow (found.map enc)) (e1 := .ow (found.map enc)) (gs0 := found.map enc) (gs := found.map enc) rfl rfl hpop rfl rfl (by rw [List.length_map]; omega)).trans ?_
      rw [List.map_append, ← erase_map]; rfl
    · show (left.eraseIdx k).length = _
      rw [List.length_eraseIdx_of_lt hk]; omega
    · show (found ++ [left[k]]).length = _
      rw [List.length_append, hf]; rfl
    · refine List.Perm.trans ?_ hp
      have q := perm_pop left k hk
      refine List.Perm.trans ?_ (List.Perm.append_right found q.symm)
      rw [← List.append_assoc]
      refine (List.perm_append_comm).trans ?_
      rfl
    · exact h4
  · rintro ρ' ⟨left, found⟩ ⟨hl, hf, hp, g', e4, hg', rfl⟩
    rw [List.length_range] at hl hf hg'
    have hl : left.length = xs.length - xs.length := hl
    have : left = [] := List.eq_nil_of_length_eq_zero (by omega)
    subst this
    exact ⟨found, g', _, _, s_ofE (v_reto rfl), hp, hg'⟩
end K09
end

section
set_option Elab.async false
set_option linter.all false
set_option maxRecDepth 100000
set_option maxHeartbeats 2000000
namespace K09
open PySem DD MM
open Dat (enc)

theorem Gn.mono {B C : Nat} {g : List Da} (h : Gn B g) (hc : B ≤ C) : Gn C g := by
  obtain ⟨x, y, z, e, a, b, c, d, f⟩ := h.ex
  exact ⟨x, y, z, e, a, b, c, d, by omega⟩
theorem intAsc {l : Lot} (h : Asc l) : l.Pairwise (· < ·) := h.imp fun {a b} q => of_decide_eq_true q
/-- a lot out of drawn points -/
theorem lot_drawn {n : Nat} {ys : List Int} (h : ys.Perm (pts n)) (k : Nat) : IsLot (n : Int) (isort (ys.take k)) := by
  have hnd : ys.Nodup := h.symm.nodup (asc_nodup (ascInt (pts_asc n)))
  refine ⟨intAsc (isort_asc _ (List.Sublist.nodup (List.take_sublist _ _) hnd)), fun x hx => ?_⟩
  exact mem_pts.mp (h.mem_iff.mp (List.mem_of_mem_take (mem_isort.mp hx)))
theorem ev_body {B : Nat} {g : List Da} (hg : Gn B g) (hB : B + 2 ^ 30 < 2 ^ 50) (most : Nat) (h1 : 1 ≤ most) (h5 : most ≤ 5) : ∃ (n : Nat) (ls : List Lot) (g' : List Da), o__law_body g [enc (most : Int)] = some (.ok (enc (bd n (topsOf ls))), g') ∧ 1 ≤ n ∧ n ≤ most ∧ ls.length ≤ 5 ∧ (∀ l ∈ ls, IsLot (n : Int) l) ∧ Gn (B + 100) g' := by
  obtain ⟨v, g1, r1, v0, v1, G1⟩ := rand hg (by omega) (most : Int) (by omega) (by omega)
  obtain ⟨n0, rfl⟩ := Int.eq_ofNat_of_zero_le v0
  obtain ⟨w, g2, r2, w0, w1, G2⟩ := rand G1 (by omega) 6 (by omega) (by omega)
  obtain ⟨t, rfl⟩ := Int.eq_ofNat_of_zero_le w0
  unfold o__law_body sf__law_body
  suffices h : ∃ (ls : List Lot) (g' : List Da) (e : List Ent), sx_seq _ _ (startG 6 g [enc (most : Int)]) = some (.fl (.rt (enc (bd (1 + n0) (topsOf ls))) (.gn g' :: e))) ∧ ls.length ≤ 5 ∧ (∀ l ∈ ls, IsLot ((1 + n0 : Nat) : Int) l) ∧ Gn (B + 100) g' by
    obtain ⟨ls, g', e, q1, q2, q3, q4⟩ := h
    exact ⟨1 + n0, ls, g', runGE rfl q1 rfl, by omega, by omega, q2, q3, q4⟩
  rw [s_seqE (ρ := startG 6 g [enc (most : Int)]) (s_asgE (i := 2) (x_binE (x_ofE (v_cI 1)) (x_callGE (i := 0) (n := 1) (en := .gn g) (e1 := .gn g) (gs0 := g) (gs := g) rfl rfl (x_ofE (v_cons (v_var rfl) v_nil)) rfl rfl rfl r1) (w_addI _ _))) rfl]
  rw [s_seqE (s_ofE (v_own (i := 3) (v_llst v_nil (by decide)))) rfl]
  have e1n : ((1 : Int) + (n0 : Int)) = ((1 + n0 : Nat) : Int) := by omega
  refine s_forE (f := fun i : Nat => enc ((0 : Int) + (i : Nat))) (xs := List.range t) (ρ1 := [.gn g2, .im (enc (most : Int)), .im (enc ((1 : Int) + (n0 : Int))), .ow [], .no, .no]) (R := fun r => ∃ (ls : List Lot) (g' : List Da) (e : List Ent), r = some (.fl (.rt (enc (bd (1 + n0) (topsOf ls))) (.gn g' :: e))) ∧ ls.length ≤ 5 ∧ (∀ l ∈ ls, IsLot ((1 + n0 : Nat) : Int) l) ∧ Gn (B + 100) g')
    (fun i (s : List Lot) ρ => s.length ≤ i ∧ (∀ l ∈ s, IsLot ((1 + n0 : Nat) : Int) l) ∧ ∃ g' e4 e5, Gn (B + 2 + 10 * i) g' ∧ ρ = [.gn g', .im (enc (most : Int)), .im (enc ((1 : Int) + (n0 : Int))), .ow (s.map enc), e4, e5]) [] ?_ ⟨Nat.le_refl _, fun l hl => (by cases hl), g2, _, _, G2, rfl⟩ ?_ ?_
  · refine bindE (x_consE (x_callGE (i := 0) (n := 1) (en := .gn g1) (e1 := .gn g1) (gs0 := g1) (gs := g1) rfl rfl (x_ofE (v_cons (v_cI 6) v_nil)) rfl rfl rfl r2) retE) ?_
    have := v_range1 (ρ := []) (l := fun _ => some [enc (t : Int)]) (b := (t : Int)) rfl (by omega) (by omega)
    show (l_range1 (fun _ => some [enc (t : Int)]) []).map _ = _
    rw [this, Int.toNat_natCast]; rfl
  · rintro i s ρ x hi hx ⟨hs, hlot, g', e4, e5, G', rfl⟩
    rw [List.length_range] at hi
    obtain ⟨sz, g3, p1, p2, p3⟩ := ev_pick G' (by omega) [(0 : Int), 1, 1, 2, 2, 2, 3] (by decide) (by decide)
    have hsz : 0 ≤ sz ∧ sz ≤ 3 := by
      simp only [List.mem_cons, List.not_mem_nil, or_false] at p2
      omega
    obtain ⟨ys, g4, o1, o2, o3⟩ := ev_order p3 (pts (1 + n0)) (by rw [pts_len]; omega) (by omega)
    rw [pts_len] at o3
    obtain ⟨k, hk⟩ := Int.eq_ofNat_of_zero_le (show (0 : Int) ≤ 1 + sz by omega)
    have hk : (1 : Int) + sz = (k : Int) := hk
    refine ⟨_, [.gn g4, .im (enc (most : Int)), .im (enc ((1 : Int) + (n0 : Int))), .ow ((s ++ [isort (ys.take k)]).map enc), .im (enc ((0 : Int) + (x : Nat))), .im (enc ((1 : Int) + sz))], s ++ [isort (ys.take k)], rfl, ?_, ?_, ?_, g4, _, _, o3.mono (by omega), rfl⟩
    · refine s_seqE (s_asgE (i := 5) (x_binE (x_ofE (v_cI 1)) (x_callGE (i := 0) (n := 1) (en := .gn g') (e1 := .gn g') (gs0 := g') (gs := g') rfl rfl (x_ofE (v_cons (v_lst (v_cons (v_cI 0) (v_cons (v_cI 1) (v_cons (v_cI 1) (v_cons (v_cI 2) (v_cons (v_cI 2) (v_cons (v_cI 2) (v_cons (v_cI 3) v_nil))))))) (by show 7 ≤ _; decide)) v_nil)) rfl rfl rfl p1) (w_addI _ _))) ?_
      have hcall : x_callG 0 1 o__law_order (x_of (l_cons (e_new (l_listRg (rg1 (e_var 2)))) (l_nil))) [.gn g3, .im (enc (most : Int)), .im (enc ((1 : Int) + (n0 : Int))), .ow (s.map enc), .im (enc ((0 : Int) + (x : Nat))), .im (enc ((1 : Int) + sz))] = some (.ok (enc ys) [.gn g4, .im (enc (most : Int)), .im (enc ((1 : Int) + (n0 : Int))), .ow (s.map enc), .im (enc ((0 : Int) + (x : Nat))), .im (enc ((1 : Int) + sz))]) := by
        refine x_callGE (i := 0) (n := 1) (en := .gn g3) (e1 := .gn g3) (gs0 := g3) (gs := g3) rfl rfl (x_ofE (v_cons (v_new (v_listRg (n := 1 + n0) (by rw [← e1n]; exact v_var rfl) (by omega))) v_nil)) rfl rfl rfl o1
      have hcut : x_cut (x_callG 0 1 o__law_order (x_of (l_cons (e_new (l_listRg (rg1 (e_var 2)))) (l_nil)))) (retX (some none)) (xp_at (x_of (e_var 5))) [.gn g3, .im (enc (most : Int)), .im (enc ((1 : Int) + (n0 : Int))), .ow (s.map enc), .im (enc ((0 : Int) + (x : Nat))), .im (enc ((1 : Int) + sz))] = some (.ok (enc (ys.take k)) [.gn g4, .im (enc (most : Int)), .im (enc ((1 : Int) + (n0 : Int))), .ow (s.map enc), .im (enc ((0 : Int) + (x : Nat))), .im (enc ((1 : Int) + sz))]) := by
        refine x_cutE hcall retE (xp_atE (x_ofE (v_var rfl))) ?_
        rw [hk, w_cut, cut_to]
      refine (s_appE (i := 3) (en := .ow (s.map enc)) (e1 := .ow (s.map enc)) (gs0 := s.map enc) (gs := s.map enc) rfl rfl (x_newE (xl_callE (x_consE hcut retE) (ev_sorted (ys.take k)))) rfl rfl (by rw [List.length_map]; omega)).trans ?_
      rw [List.map_append]; rfl
    · rw [List.length_append]; show s.length + 1 ≤ _; omega
    · intro l hl
      rcases List.mem_append.mp hl with q | q
      · exact hlot l q
      · rw [List.mem_singleton.mp q]
        exact lot_drawn o2 k
  · rintro ρ' s ⟨hs, hlot, g', e4, e5, G', rfl⟩
    rw [List.length_range] at hs G'
    refine ⟨s, g', [.im (enc (most : Int)), .im (enc ((1 : Int) + (n0 : Int))), .im (enc s), e4, e5], ?_, by omega, hlot, G'.mono (by omega)⟩
    refine s_frzE rfl (s_ofE (v_ret ?_))
    rw [show enc (bd (1 + n0) (topsOf s)) = PyData.tuple [.str "complex", enc ((1 + n0 : Nat) : Int), enc (topsOf s)] from rfl, ← e1n]
    exact v_tup (v_cons rfl (v_cons (v_var rfl) (v_cons (v_call (v_cons (v_var rfl) v_nil) (ev_ltops s (by omega))) v_nil)))
end K09
end

section
set_option Elab.async false
set_option linter.all false
set_option maxRecDepth 100000
set_option maxHeartbeats 2000000
namespace K09
open PySem DD MM
open Dat (enc)

/-- a complex of at most five points, made of lots -/
theorem okB_of {n : Nat} {ls : List Lot} (h1 : 1 ≤ n) (h5 : n ≤ 5) (h : ∀ l ∈ ls, IsLot (n : Int) l) : OkB n (topsOf ls) where
  n1 := h1
  n7 := by omega
  len := by have := tops_len5 (tops_topsOf h) h5; omega
  tops := tops_topsOf h
theorem facesOf_lot {n : Nat} {ts : List Lot} : ∀ l ∈ facesOf n ts, IsLot (n : Int) l := fun l hl => (mem_facesOf.mp hl).1
/-- faces of the lots that are faces -/
theorem face_faces {n : Nat} {ts : List Lot} (h : Tops (n : Int) ts) (l : Lot) : face (facesOf n ts) l = face ts l := by
  rw [Bool.eq_iff_iff, face_iff, face_iff]
  constructor
  · rintro ⟨h1, f, hf, s⟩
    obtain ⟨_, t, ht, s2⟩ := face_iff.mp (mem_facesOf.mp hf).2
    exact ⟨h1, t, ht, sub_trans s s2⟩
  · rintro ⟨h1, t, ht, s⟩
    exact ⟨h1, t, mem_facesOf.mpr ⟨h.lot t ht, face_iff.mpr ⟨h.ne t ht, t, ht, sub_refl t⟩⟩, s⟩
theorem tops_faces {n : Nat} {ts : List Lot} (h : Tops (n : Int) ts) : topsOf (facesOf n ts) = ts :=
  tops_ext (tops_topsOf facesOf_lot) h fun l _ => (face_topsOf facesOf_lot l).trans (face_faces h l)
end K09
end

section
set_option Elab.async false
set_option linter.all false
set_option maxRecDepth 100000
set_option maxHeartbeats 2000000
namespace K09
open PySem DD MM
open Dat (enc)

theorem missStep_mono {ts f : List Lot} {l t : Lot} (h : t ∈ f) : t ∈ missStep ts f l := by
  unfold missStep
  split
  · exact List.mem_append_left _ h
  · exact h
theorem miss_fold (ts : List Lot) : ∀ (xs f : List Lot), (∀ t ∈ xs.foldl (missStep ts) f, t ∈ f ∨ (t ∈ xs ∧ t ≠ [] ∧ face ts t = false)) ∧ (∀ l ∈ xs, l ≠ [] → face ts l = false → ∃ o ∈ xs.foldl (missStep ts) f, sub o l = true) ∧ (∀ t ∈ f, t ∈ xs.foldl (missStep ts) f)
  | [], f => ⟨fun t ht => .inl ht, fun l hl => (by cases hl), fun t ht => ht⟩
  | x :: xs, f => by
    obtain ⟨h1, h2, h3⟩ := miss_fold ts xs (missStep ts f x)
    refine ⟨fun t ht => ?_, fun l hl hne hf => ?_, fun t ht => h3 t (missStep_mono ht)⟩
    · rcases h1 t ht with q | ⟨q, r⟩
      · unfold missStep at q
        split at q
        · rename_i hc
          rcases List.mem_append.mp q with q | q
          · exact .inl q
          · rw [List.mem_singleton.mp q]
            simp only [Bool.and_eq_true, decide_eq_true_eq, Bool.not_eq_true'] at hc
            exact .inr ⟨List.mem_cons_self, hc.1, hc.2.1⟩
        · exact .inl q
      · exact .inr ⟨List.mem_cons_of_mem _ q, r⟩
    · rcases List.mem_cons.mp hl with e | e
      · subst e
        by_cases hc : (f.any fun o => sub o l) = true
        · obtain ⟨o, ho, s⟩ := List.any_eq_true.mp hc
          exact ⟨o, h3 o (missStep_mono ho), s⟩
        · refine ⟨l, h3 l ?_, sub_refl l⟩
          unfold missStep
          rw [if_pos (by rw [hf, decide_eq_true hne, Bool.eq_false_iff.mpr hc]; rfl)]
          exact List.mem_append_right _ (List.mem_singleton.mpr rfl)
      · exact h2 l e hne hf
theorem miss_lot {n : Nat} {ts : List Lot} {t : Lot} (h : t ∈ miss n ts) : IsLot (n : Int) t ∧ t ≠ [] ∧ face ts t = false := by
  rcases (miss_fold ts (lots n) []).1 t h with q | ⟨q, r⟩
  · cases q
  · exact ⟨mem_lots.mp q, r⟩
theorem miss_in {n : Nat} {ts : List Lot} {l : Lot} (hl : IsLot (n : Int) l) (hne : l ≠ []) (hf : face ts l = false) : ∃ o ∈ miss n ts, sub o l = true := (miss_fold ts (lots n) []).2.1 l (mem_lots.mpr hl) hne hf
theorem mem_barL {n : Nat} {ls : List Lot} {l : Lot} : l ∈ barL n ls ↔ IsLot (n : Int) l ∧ ∀ o ∈ ls, sub o l = false := by
  unfold barL
  rw [List.mem_filter, mem_lots, Bool.not_eq_true', List.any_eq_false]
  simp only [Bool.not_eq_true]
/-- the lots barred by the least missing ones are the faces -/
theorem bar_miss {n : Nat} {ts : List Lot} (h : Tops (n : Int) ts) : topsOf (barL n (miss n ts)) = ts := by
  have hb : ∀ l ∈ barL n (miss n ts), IsLot (n : Int) l := fun l hl => (mem_barL.mp hl).1
  refine tops_ext (tops_topsOf hb) h fun l hl => ?_
  rw [face_topsOf hb l, Bool.eq_iff_iff]
  constructor
  · intro q
    obtain ⟨hne, t, ht, s⟩ := face_iff.mp q
    cases hf : face ts l with
    | true => rfl
    | false =>
      obtain ⟨o, ho, s2⟩ := miss_in hl hne hf
      have := (mem_barL.mp ht).2 o ho
      rw [sub_trans s2 s] at this; cases this
  · intro q
    have hne := (face_iff.mp q).1
    refine face_iff.mpr ⟨hne, l, mem_barL.mpr ⟨hl, fun o ho => ?_⟩, sub_refl l⟩
    obtain ⟨o1, o2, o3⟩ := miss_lot ho
    cases hs : sub o l with
    | false => rfl
    | true => rw [face_sub q o2 hs] at o3; cases o3
end K09
end

section
set_option Elab.async false
set_option linter.all false
set_option maxRecDepth 100000
set_option maxHeartbeats 2000000
namespace K09
open PySem DD MM
open Dat (enc)

theorem sum_one (D : Nat) (a : Int) (h0 : 0 ≤ a) (hD : a < D) : ((List.range D).map fun i : Nat => if a = (i : Int) then (1 : Int) else 0).sum = 1 := by
  induction D with
  | zero => omega
  | succ D ih =>
    rw [List.range_succ, List.map_append, List.sum_append]
    by_cases h : a < D
    · rw [ih h, List.map_singleton, List.sum_singleton, if_neg (by omega)]; rfl
    · have z : ((List.range D).map fun i : Nat => if a = (i : Int) then (1 : Int) else 0).sum = 0 := by
        have : ((List.range D).map fun i : Nat => if a = (i : Int) then (1 : Int) else 0) = (List.range D).map fun _ => (0 : Int) := by
          refine List.map_congr_left fun i hi => ?_
          have := List.mem_range.mp hi
          rw [if_neg (by omega)]
        rw [this]
        induction (List.range D) with
        | nil => rfl
        | cons x l ih2 => rw [List.map_cons, List.sum_cons, ih2]; rfl
      rw [z, List.map_singleton, List.sum_singleton, if_pos (by omega)]; rfl

theorem sum_add (D : Nat) (f g : Nat → Int) : ((List.range D).map fun i => f i + g i).sum = ((List.range D).map f).sum + ((List.range D).map g).sum := by
  induction (List.range D) with
  | nil => rfl
  | cons x l ih => simp only [List.map_cons, List.sum_cons, ih]; omega
theorem sum_zero : ∀ (l : List Nat) (f : Nat → Int), (∀ i ∈ l, f i = 0) → (l.map f).sum = 0
  | [], _, _ => rfl
  | x :: l, f, h => by
    rw [List.map_cons, List.sum_cons, h x List.mem_cons_self, sum_zero l f fun i hi => h i (List.mem_cons_of_mem _ hi)]; rfl
theorem sum_pick (D : Nat) (s : Nat → Int) (a : Nat) (hD : a < D) : ((List.range D).map fun i : Nat => if a = i then s i else 0).sum = s a := by
  induction D with
  | zero => omega
  | succ D ih =>
    rw [List.range_succ, List.map_append, List.sum_append, List.map_singleton, List.sum_singleton]
    by_cases h : a < D
    · rw [ih h, if_neg (by omega)]; omega
    · rw [sum_zero _ _ fun i hi => if_neg (by have := List.mem_range.mp hi; omega), if_pos (by omega), show a = D by omega]; omega
/-- counted by their sizes -/
theorem sum_sizes (D : Nat) (s : Nat → Int) : ∀ (L : List Lot), (∀ l ∈ L, 1 ≤ l.length ∧ l.length ≤ D) → ((List.range D).map fun i : Nat => s i * ((L.filter fun l => decide ((l.length : Int) = (0 + (i : Nat) : Int) + 1)).length : Int)).sum = (L.map fun l => s (l.length - 1)).sum
  | [], _ => sum_zero _ _ fun i _ => by simp
  | l :: L, h => by
    have ih := sum_sizes D s L fun k hk => h k (List.mem_cons_of_mem _ hk)
    have hl := h l List.mem_cons_self
    rw [List.map_cons, List.sum_cons, ← ih, ← sum_pick D s (l.length - 1) (by omega), ← sum_add]
    congr 1
    refine List.map_congr_left fun i hi => ?_
    by_cases e : l.length - 1 = i
    · rw [if_pos e, List.filter_cons_of_pos (by simp; omega), List.length_cons, Int.natCast_succ, Int.mul_add, Int.mul_one]; omega
    · rw [if_neg e, List.filter_cons_of_neg (by simp; omega)]; omega
end K09
end

section
set_option Elab.async false
set_option linter.all false
set_option maxRecDepth 100000
set_option maxHeartbeats 2000000
namespace K09
open PySem DD MM
open Dat (enc)

theorem face_dim {n : Nat} {ts : List Lot} (h : Tops (n : Int) ts) (hn : n ≤ 7) : ∀ l ∈ facesOf n ts, 1 ≤ l.length ∧ l.length ≤ (dimOf ts + 1).toNat := fun l hl => by
  obtain ⟨h1, h2⟩ := mem_facesOf.mp hl
  obtain ⟨hne, t, ht, s⟩ := face_iff.mp h2
  obtain ⟨d0, d7, hd⟩ := dim_bounds h.lot hn
  have := sub_len h1.asc (h.lot t ht).asc s
  have := hd t ht
  have : 0 < l.length := List.length_pos_iff.mpr hne
  omega
theorem counts_sum {n : Nat} {ts : List Lot} (h : Tops (n : Int) ts) (hn : n ≤ 7) : (counts n ts).sum = ((facesOf n ts).length : Int) := by
  have := sum_sizes (dimOf ts + 1).toNat (fun _ => 1) (facesOf n ts) (face_dim h hn)
  simp only [Int.one_mul] at this
  have e : ((facesOf n ts).map fun _ => (1 : Int)).sum = ((facesOf n ts).length : Int) := by
    induction facesOf n ts with
    | nil => rfl
    | cons x l ih => rw [List.map_cons, List.sum_cons, ih, List.length_cons]; omega
  rw [e] at this
  exact this
theorem enum_range (f : Nat → Int) : ∀ (D k : Nat), enumI ((k : Nat) : Int) ((List.range' k D).map f) = (List.range' k D).map fun i => (((i : Nat) : Int), f i)
  | 0, _ => rfl
  | D + 1, k => by
    rw [List.range'_succ, List.map_cons, List.map_cons, enumI]
    have := enum_range f D (k + 1)
    rw [Int.natCast_succ] at this
    rw [this]
/-- the sign of a dimension -/
def sgn (i : Nat) : Int := if (i : Int) = 0 ∨ (i : Int) = 2 ∨ (i : Int) = 4 ∨ (i : Int) = 6 then 1 else -1
theorem euler_sum {n : Nat} {ts : List Lot} (h : Tops (n : Int) ts) (hn : n ≤ 7) : euler (counts n ts) = ((facesOf n ts).map fun l => sgn (l.length - 1)).sum := by
  rw [← sum_sizes (dimOf ts + 1).toNat sgn (facesOf n ts) (face_dim h hn)]
  unfold euler counts
  have := enum_range (fun i => ((facesAt n ts ((0 : Int) + (i : Nat))).length : Int)) (dimOf ts + 1).toNat 0
  rw [← List.range_eq_range'] at this
  have this : enumI (0 : Int) _ = _ := this
  rw [this, List.map_map]
  congr 1
  refine List.map_congr_left fun i hi => ?_
  show (if (i : Int) = 0 ∨ (i : Int) = 2 ∨ (i : Int) = 4 ∨ (i : Int) = 6 then _ else 0 - _) = sgn i * _
  unfold sgn facesAt
  split
  · rw [Int.one_mul]
  · dsimp only
    omega
end K09
end

section
set_option Elab.async false
set_option linter.all false
set_option maxRecDepth 100000
set_option maxHeartbeats 2000000
namespace K09
open PySem DD MM
open Dat (enc)

theorem mem_fold {xs : List Lot} (F : Lot → List Lot) : ∀ (f : List Lot) (l : Lot), l ∈ xs.foldl (fun f t => f ++ F t) f ↔ l ∈ f ∨ ∃ t ∈ xs, l ∈ F t := by
  induction xs with
  | nil => intro f l; simp
  | cons x xs ih =>
    intro f l
    rw [List.foldl_cons, ih, List.mem_append]
    constructor
    · rintro ((q | q) | ⟨t, ht, q⟩)
      · exact .inl q
      · exact .inr ⟨x, List.mem_cons_self, q⟩
      · exact .inr ⟨t, List.mem_cons_of_mem _ ht, q⟩
    · rintro (q | ⟨t, ht, q⟩)
      · exact .inl (.inl q)
      · rcases List.mem_cons.mp ht with e | e
        · subst e; exact .inl (.inr q)
        · exact .inr ⟨t, e, q⟩
theorem mem_joinL {m : Int} {ts us : List Lot} {l : Lot} : l ∈ joinL m ts us ↔ ∃ t ∈ padT ts, ∃ u ∈ padT us, l = t ++ shift u m := by
  unfold joinL
  rw [mem_fold (fun t => (padT us).map fun o => t ++ shift o m)]
  constructor
  · rintro (q | ⟨t, ht, q⟩)
    · cases q
    · obtain ⟨u, hu, rfl⟩ := List.mem_map.mp q
      exact ⟨t, ht, u, hu, rfl⟩
  · rintro ⟨t, ht, u, hu, rfl⟩
    exact .inr ⟨t, ht, List.mem_map.mpr ⟨u, hu, rfl⟩⟩
end K09
end

section
set_option Elab.async false
set_option linter.all false
set_option maxRecDepth 100000
set_option maxHeartbeats 2000000
namespace K09
open PySem DD MM
open Dat (enc)

/-! counting by lists of the same members -/
theorem perm_of {α : Type} {l m : List α} (hl : l.Nodup) (hm : m.Nodup) (h : ∀ x, x ∈ l ↔ x ∈ m) : l.Perm m := (List.perm_ext_iff_of_nodup hl hm).mpr h
theorem nodup_map_of {α β : Type} {f : α → β} {l : List α} (h : l.Nodup) (inj : ∀ a ∈ l, ∀ b ∈ l, f a = f b → a = b) : (l.map f).Nodup :=
  List.pairwise_map.mpr (List.Pairwise.imp_of_mem (fun {a b} ha hb ne e => ne (inj a ha b hb e)) h)
theorem perm_sum {l m : List Int} (h : l.Perm m) : l.sum = m.sum := by
  induction h with
  | nil => rfl
  | cons x _ ih => rw [List.sum_cons, List.sum_cons, ih]
  | swap x y l => rw [List.sum_cons, List.sum_cons, List.sum_cons, List.sum_cons]; omega
  | trans _ _ h1 h2 => rw [h1, h2]
theorem facesOf_nodup (n : Nat) (ts : List Lot) : (facesOf n ts).Nodup := List.Pairwise.filter _ (lots_nodup n)

/-- a face, or empty -/
def faceE (ts : List Lot) (l : Lot) : Bool := decide (l = []) || face ts l
def facesE (n : Nat) (ts : List Lot) : List Lot := (lots n).filter (faceE ts)
theorem mem_facesE {n : Nat} {ts : List Lot} {l : Lot} : l ∈ facesE n ts ↔ IsLot (n : Int) l ∧ faceE ts l = true := by
  unfold facesE; rw [List.mem_filter, mem_lots]
theorem facesE_nodup (n : Nat) (ts : List Lot) : (facesE n ts).Nodup := List.Pairwise.filter _ (lots_nodup n)
theorem lot_nil (m : Int) : IsLot m [] := ⟨List.Pairwise.nil, fun x hx => (by cases hx)⟩
theorem facesE_perm (n : Nat) (ts : List Lot) : (facesE n ts).Perm ([] :: facesOf n ts) := by
  refine perm_of (facesE_nodup n ts) (List.nodup_cons.mpr ⟨fun h => (face_iff.mp (mem_facesOf.mp h).2).1 rfl, facesOf_nodup n ts⟩) fun l => ?_
  rw [mem_facesE, List.mem_cons, mem_facesOf]
  unfold faceE
  rw [Bool.or_eq_true, decide_eq_true_eq]
  constructor
  · rintro ⟨h, e | q⟩
    · exact .inl e
    · exact .inr ⟨h, q⟩
  · rintro (e | ⟨h, q⟩)
    · subst e; exact ⟨lot_nil _, .inl rfl⟩
    · exact ⟨h, .inr q⟩
theorem facesE_len (n : Nat) (ts : List Lot) : (facesE n ts).length = (facesOf n ts).length + 1 := (facesE_perm n ts).length_eq
theorem faceE_iff {ts : List Lot} {l : Lot} : faceE ts l = true ↔ ∃ t ∈ padT ts, sub l t = true := by
  unfold faceE padT
  rw [Bool.or_eq_true, decide_eq_true_eq, face_iff]
  by_cases e : ts = []
  · rw [if_pos e]
    subst e
    constructor
    · rintro (q | ⟨_, t, ht, _⟩)
      · subst q; exact ⟨[], List.mem_singleton.mpr rfl, rfl⟩
      · cases ht
    · rintro ⟨t, ht, s⟩
      rw [List.mem_singleton.mp ht] at s
      refine .inl ?_
      cases l with
      | nil => rfl
      | cons x l => exact absurd (sub_iff.mp s x List.mem_cons_self) (by simp)
  · rw [if_neg e]
    constructor
    · rintro (q | ⟨_, t, ht, s⟩)
      · subst q
        obtain ⟨t, ht⟩ := List.exists_mem_of_ne_nil ts e
        exact ⟨t, ht, rfl⟩
      · exact ⟨t, ht, s⟩
    · rintro ⟨t, ht, s⟩
      by_cases q : l = []
      · exact .inl q
      · exact .inr ⟨q, t, ht, s⟩

/-! signs -/
def sg (k : Nat) : Int := if k % 2 = 0 then 1 else -1
theorem sg_add (i j : Nat) : sg (i + j) = sg i * sg j := by
  unfold sg
  rcases Nat.mod_two_eq_zero_or_one i with a | a <;> rcases Nat.mod_two_eq_zero_or_one j with b | b
  · rw [if_pos a, if_pos b, if_pos (show (i + j) % 2 = 0 by omega)]; rfl
  · rw [if_pos a, if_neg (show ¬ j % 2 = 0 by omega), if_neg (show ¬ (i + j) % 2 = 0 by omega)]; rfl
  · rw [if_neg (show ¬ i % 2 = 0 by omega), if_pos b, if_neg (show ¬ (i + j) % 2 = 0 by omega)]; rfl
  · rw [if_neg (show ¬ i % 2 = 0 by omega), if_neg (show ¬ j % 2 = 0 by omega), if_pos (show (i + j) % 2 = 0 by omega)]; rfl
theorem sg_sgn (k : Nat) (h1 : 1 ≤ k) (h7 : k ≤ 7) : sg k = 0 - sgn (k - 1) := by
  unfold sg sgn
  by_cases h : k % 2 = 0
  · rw [if_pos h, if_neg (by omega)]; rfl
  · rw [if_neg h, if_pos (by omega)]; rfl
def chi (n : Nat) (ts : List Lot) : Int := ((facesE n ts).map fun l => sg l.length).sum
theorem euler_E {n : Nat} {ts : List Lot} (h : Tops (n : Int) ts) (hn : n ≤ 7) : euler (counts n ts) = 1 - chi n ts := by
  unfold chi
  rw [euler_sum h hn, perm_sum ((facesE_perm n ts).map _), List.map_cons, List.sum_cons]
  have hd := face_dim h hn
  have hb := dim_bounds h.lot hn
  have : ∀ L : List Lot, (∀ l ∈ L, 1 ≤ l.length ∧ l.length ≤ 7) → (L.map fun l => sg l.length).sum = 0 - (L.map fun l => sgn (l.length - 1)).sum := by
    intro L
    induction L with
    | nil => intro _; rfl
    | cons x L ih =>
      intro hL
      have hx := hL x List.mem_cons_self
      rw [List.map_cons, List.sum_cons, List.map_cons, List.sum_cons, ih fun l hl => hL l (List.mem_cons_of_mem _ hl), sg_sgn _ hx.1 hx.2]
      omega
  rw [this _ fun l hl => ⟨(hd l hl).1, by have := (hd l hl).2; omega⟩]
  show _ = 1 - (1 + _)
  omega

/-! lots of n + k points -/
abbrev cat (n : Nat) (a b : Lot) : Lot := a ++ shift b (n : Int)
theorem mem_shift {b : Lot} {m x : Int} : x ∈ shift b m ↔ x - m ∈ b := by
  unfold shift
  rw [List.mem_map]
  constructor
  · rintro ⟨y, hy, e⟩
    rw [← e, show y + m - m = y by omega]; exact hy
  · intro h
    exact ⟨_, h, by omega⟩
theorem shift_asc {b : Lot} (m : Int) (h : b.Pairwise (· < ·)) : (shift b m).Pairwise (· < ·) := List.pairwise_map.mpr (h.imp fun {x y} q => by omega)
theorem lot_cat {n k : Nat} {a b : Lot} (ha : IsLot (n : Int) a) (hb : IsLot (k : Int) b) : IsLot ((n + k : Nat) : Int) (cat n a b) where
  asc := List.pairwise_append.mpr ⟨ha.asc, shift_asc _ hb.asc, fun x hx y hy => by
    have := ha.rng x hx
    have := hb.rng _ (mem_shift.mp hy)
    omega⟩
  rng x hx := by
    rcases List.mem_append.mp hx with q | q
    · have := ha.rng x q; omega
    · have := hb.rng _ (mem_shift.mp q); omega
def lo (n : Nat) (l : Lot) : Lot := l.filter fun x => decide (x < (n : Int))
def hi (n : Nat) (l : Lot) : Lot := shift (l.filter fun x => !decide (x < (n : Int))) (-(n : Int))
theorem mem_lo {n : Nat} {l : Lot} {x : Int} : x ∈ lo n l ↔ x ∈ l ∧ x < n := by unfold lo; rw [List.mem_filter, decide_eq_true_eq]
theorem mem_hi {n : Nat} {l : Lot} {x : Int} : x ∈ hi n l ↔ x + n ∈ l ∧ 0 ≤ x := by
  unfold hi
  rw [mem_shift, List.mem_filter, Bool.not_eq_true', decide_eq_false_iff_not, show x - -(n : Int) = x + n by omega]
  constructor
  · rintro ⟨a, b⟩; exact ⟨a, by omega⟩
  · rintro ⟨a, b⟩; exact ⟨a, by omega⟩
theorem lot_lo {n k : Nat} {l : Lot} (h : IsLot ((n + k : Nat) : Int) l) : IsLot (n : Int) (lo n l) :=
  ⟨h.asc.sublist List.filter_sublist, fun x hx => ⟨(h.rng x (mem_lo.mp hx).1).1, (mem_lo.mp hx).2⟩⟩
theorem lot_hi {n k : Nat} {l : Lot} (h : IsLot ((n + k : Nat) : Int) l) : IsLot (k : Int) (hi n l) :=
  ⟨shift_asc _ (h.asc.sublist List.filter_sublist), fun x hx => ⟨(mem_hi.mp hx).2, by have := h.rng _ (mem_hi.mp hx).1; omega⟩⟩
theorem cat_lo_hi {n k : Nat} {l : Lot} (h : IsLot ((n + k : Nat) : Int) l) : cat n (lo n l) (hi n l) = l := by
  have hc := lot_cat (lot_lo h) (lot_hi h)
  refine asc_ext (ascInt hc.asc) (ascInt h.asc) fun x => ?_
  rw [List.mem_append, mem_shift, mem_lo, mem_hi, show x - (n : Int) + n = x by omega]
  constructor
  · rintro (q | q)
    · exact q.1
    · exact q.1
  · intro q
    by_cases hx : x < n
    · exact .inl ⟨q, hx⟩
    · exact .inr ⟨q, by omega⟩
theorem lo_cat {n k : Nat} {a b : Lot} (ha : IsLot (n : Int) a) (hb : IsLot (k : Int) b) : lo n (cat n a b) = a := by
  refine asc_ext (ascInt (lot_lo (lot_cat ha hb)).asc) (ascInt ha.asc) fun x => ?_
  rw [mem_lo, List.mem_append, mem_shift]
  constructor
  · rintro ⟨q | q, hx⟩
    · exact q
    · have := hb.rng _ q; omega
  · intro q
    exact ⟨.inl q, (ha.rng x q).2⟩
theorem hi_cat {n k : Nat} {a b : Lot} (ha : IsLot (n : Int) a) (hb : IsLot (k : Int) b) : hi n (cat n a b) = b := by
  refine asc_ext (ascInt (lot_hi (lot_cat ha hb)).asc) (ascInt hb.asc) fun x => ?_
  rw [mem_hi, List.mem_append, mem_shift, show x + (n : Int) - n = x by omega]
  constructor
  · rintro ⟨q | q, hx⟩
    · have := ha.rng _ q; omega
    · exact q
  · intro q
    exact ⟨.inr q, (hb.rng x q).1⟩
theorem sub_cat {n k : Nat} {a b a' b' : Lot} (ha : IsLot (n : Int) a) (hb : IsLot (k : Int) b) (ha' : IsLot (n : Int) a') (hb' : IsLot (k : Int) b') : sub (cat n a b) (cat n a' b') = (sub a a' && sub b b') := by
  rw [Bool.eq_iff_iff, Bool.and_eq_true, sub_iff, sub_iff, sub_iff]
  constructor
  · intro h
    refine ⟨fun x hx => ?_, fun x hx => ?_⟩
    · rcases List.mem_append.mp (h x (List.mem_append_left _ hx)) with q | q
      · exact q
      · have := ha.rng x hx
        have := hb'.rng _ (mem_shift.mp q); omega
    · have hx' : x + (n : Int) ∈ shift b n := mem_shift.mpr (by rw [show x + (n : Int) - n = x by omega]; exact hx)
      rcases List.mem_append.mp (h _ (List.mem_append_right _ hx')) with q | q
      · have := ha'.rng _ q
        have := hb.rng x hx; omega
      · have := mem_shift.mp q
        rw [show x + (n : Int) - n = x by omega] at this; exact this
  · rintro ⟨h1, h2⟩ x hx
    rcases List.mem_append.mp hx with q | q
    · exact List.mem_append_left _ (h1 x q)
    · exact List.mem_append_right _ (mem_shift.mpr (h2 _ (mem_shift.mp q)))
theorem pad_lot {m : Int} {ts : List Lot} (h : ∀ t ∈ ts, IsLot m t) : ∀ t ∈ padT ts, IsLot m t := by
  unfold padT
  split
  · intro t ht
    rw [List.mem_singleton.mp ht]; exact lot_nil _
  · exact h
theorem pad_mem (ts : List Lot) : ∃ t, t ∈ padT ts := by
  unfold padT
  split
  · exact ⟨[], List.mem_singleton.mpr rfl⟩
  · rename_i e
    exact List.exists_mem_of_ne_nil ts e
theorem join_lot {n k : Nat} {ts us : List Lot} (h : ∀ t ∈ ts, IsLot (n : Int) t) (g : ∀ t ∈ us, IsLot (k : Int) t) : ∀ l ∈ joinL n ts us, IsLot ((n + k : Nat) : Int) l := by
  intro l hl
  obtain ⟨t, ht, u, hu, rfl⟩ := mem_joinL.mp hl
  exact lot_cat (pad_lot h t ht) (pad_lot g u hu)
/-- the faces of the join -/
theorem join_face {n k : Nat} {ts us : List Lot} (h : ∀ t ∈ ts, IsLot (n : Int) t) (g : ∀ t ∈ us, IsLot (k : Int) t) {a b : Lot} (ha : IsLot (n : Int) a) (hb : IsLot (k : Int) b) : faceE (topsOf (joinL n ts us)) (cat n a b) = (faceE ts a && faceE us b) := by
  have e : faceE (topsOf (joinL n ts us)) (cat n a b) = true ↔ ∃ t ∈ joinL n ts us, sub (cat n a b) t = true := by
    unfold faceE
    rw [face_topsOf (join_lot h g), Bool.or_eq_true, decide_eq_true_eq, face_iff]
    constructor
    · rintro (q | ⟨_, q⟩)
      · obtain ⟨t, ht⟩ := pad_mem ts
        obtain ⟨u, hu⟩ := pad_mem us
        exact ⟨_, mem_joinL.mpr ⟨t, ht, u, hu, rfl⟩, by rw [q]; rfl⟩
      · exact q
    · intro q
      by_cases c : cat n a b = []
      · exact .inl c
      · exact .inr ⟨c, q⟩
  rw [Bool.eq_iff_iff, e, Bool.and_eq_true, faceE_iff, faceE_iff]
  constructor
  · rintro ⟨l, hl, s⟩
    obtain ⟨t, ht, u, hu, rfl⟩ := mem_joinL.mp hl
    rw [sub_cat ha hb (pad_lot h t ht) (pad_lot g u hu), Bool.and_eq_true] at s
    exact ⟨⟨t, ht, s.1⟩, ⟨u, hu, s.2⟩⟩
  · rintro ⟨⟨t, ht, s1⟩, ⟨u, hu, s2⟩⟩
    refine ⟨_, mem_joinL.mpr ⟨t, ht, u, hu, rfl⟩, ?_⟩
    rw [sub_cat ha hb (pad_lot h t ht) (pad_lot g u hu), s1, s2]; rfl
theorem join_faces {n k : Nat} {ts us : List Lot} (h : ∀ t ∈ ts, IsLot (n : Int) t) (g : ∀ t ∈ us, IsLot (k : Int) t) : (facesE (n + k) (topsOf (joinL n ts us))).Perm ((facesE n ts).flatMap fun a => (facesE k us).map (cat n a)) := by
  refine perm_of (facesE_nodup _ _) ?_ fun l => ?_
  · refine List.pairwise_flatMap.mpr ⟨fun a ha => nodup_map_of (facesE_nodup k us) fun b hb b' hb' e => ?_, List.Pairwise.imp_of_mem (fun {a a'} ha ha' ne x hx y hy e => ?_) (facesE_nodup n ts)⟩
    · have ha := (mem_facesE.mp ha).1
      rw [← hi_cat ha (mem_facesE.mp hb).1, e, hi_cat ha (mem_facesE.mp hb').1]
    · obtain ⟨b, hb, rfl⟩ := List.mem_map.mp hx
      obtain ⟨b', hb', rfl⟩ := List.mem_map.mp hy
      apply ne
      rw [← lo_cat (mem_facesE.mp ha).1 (mem_facesE.mp hb).1, e, lo_cat (mem_facesE.mp ha').1 (mem_facesE.mp hb').1]
  · rw [List.mem_flatMap]
    constructor
    · intro hl
      obtain ⟨hl, hf⟩ := mem_facesE.mp hl
      rw [← cat_lo_hi hl, join_face h g (lot_lo hl) (lot_hi hl), Bool.and_eq_true] at hf
      exact ⟨lo n l, mem_facesE.mpr ⟨lot_lo hl, hf.1⟩, List.mem_map.mpr ⟨hi n l, mem_facesE.mpr ⟨lot_hi hl, hf.2⟩, cat_lo_hi hl⟩⟩
    · rintro ⟨a, ha, q⟩
      obtain ⟨b, hb, rfl⟩ := List.mem_map.mp q
      obtain ⟨a1, a2⟩ := mem_facesE.mp ha
      obtain ⟨b1, b2⟩ := mem_facesE.mp hb
      exact mem_facesE.mpr ⟨lot_cat a1 b1, by rw [join_face h g a1 b1, a2, b2]; rfl⟩
theorem flat_len (xs ys : List Lot) (n : Nat) : (xs.flatMap fun a => ys.map (cat n a)).length = xs.length * ys.length := by
  induction xs with
  | nil => rw [List.flatMap_nil, List.length_nil, Nat.zero_mul]
  | cons x xs ih => rw [List.flatMap_cons, List.length_append, ih, List.length_map, List.length_cons, Nat.succ_mul, Nat.add_comm]
theorem cat_len (n : Nat) (a b : Lot) : (cat n a b).length = a.length + b.length := by simp [cat, shift]
theorem flat_sum (xs ys : List Lot) (n : Nat) : ((xs.flatMap fun a => ys.map (cat n a)).map fun l => sg l.length).sum = (xs.map fun l => sg l.length).sum * (ys.map fun l => sg l.length).sum := by
  induction xs with
  | nil => simp
  | cons x xs ih =>
    have e : ∀ ys : List Lot, ((ys.map (cat n x)).map fun l => sg l.length).sum = sg x.length * (ys.map fun l => sg l.length).sum := by
      intro ys
      induction ys with
      | nil => simp
      | cons y ys ih2 => rw [List.map_cons, List.map_cons, List.sum_cons, ih2, List.map_cons, List.sum_cons, cat_len, sg_add, Int.mul_add]
    rw [List.flatMap_cons, List.map_append, List.sum_append, ih, e, List.map_cons, List.sum_cons, Int.add_mul]
/-- faces of a join, the empty one counted: the product -/
theorem join_count {n k : Nat} {ts us : List Lot} (h : ∀ t ∈ ts, IsLot (n : Int) t) (g : ∀ t ∈ us, IsLot (k : Int) t) : (facesOf (n + k) (topsOf (joinL n ts us))).length + 1 = ((facesOf n ts).length + 1) * ((facesOf k us).length + 1) := by
  rw [← facesE_len, ← facesE_len, ← facesE_len, (join_faces h g).length_eq, flat_len]
theorem join_chi {n k : Nat} {ts us : List Lot} (h : ∀ t ∈ ts, IsLot (n : Int) t) (g : ∀ t ∈ us, IsLot (k : Int) t) : chi (n + k) (topsOf (joinL n ts us)) = chi n ts * chi k us := by
  unfold chi
  rw [perm_sum ((join_faces h g).map _), flat_sum]
theorem chi_pt : chi 1 [[0]] = 0 := by decide +kernel
theorem chi_two : chi 2 [[0], [1]] = -1 := by decide +kernel
end K09
end

section
set_option Elab.async false
set_option linter.all false
set_option maxRecDepth 100000
set_option maxHeartbeats 2000000
namespace K09
open PySem DD MM
open Dat (enc)

/-! the least missing lots -/
theorem missStep_nodup {ts f : List Lot} {l : Lot} (h : f.Nodup) : (missStep ts f l).Nodup := by
  unfold missStep
  split
  · rename_i hc
    simp only [Bool.and_eq_true, Bool.not_eq_true'] at hc
    refine List.nodup_append.mpr ⟨h, List.nodup_cons.mpr ⟨List.not_mem_nil, List.nodup_nil⟩, fun a ha b hb e => ?_⟩
    rw [List.mem_singleton.mp hb] at e
    subst e
    have := List.any_eq_false.mp hc.2.2 a ha
    exact this (sub_refl a)
  · exact h
theorem miss_nodup (n : Nat) (ts : List Lot) : (miss n ts).Nodup := by
  unfold miss
  have : ∀ (xs f : List Lot), f.Nodup → (xs.foldl (missStep ts) f).Nodup := by
    intro xs
    induction xs with
    | nil => intro f h; exact h
    | cons x xs ih => intro f h; exact ih _ (missStep_nodup h)
  exact this _ _ List.nodup_nil
theorem missStep_mem {ts f : List Lot} {l t : Lot} (h : t ∈ missStep ts f l) : t ∈ f ∨ ∀ o ∈ f, sub o l = false := by
  unfold missStep at h
  split at h
  · rename_i hc
    simp only [Bool.and_eq_true, Bool.not_eq_true'] at hc
    exact .inr fun o ho => by
      have := List.any_eq_false.mp hc.2.2 o ho
      exact Bool.eq_false_iff.mpr this
  · exact .inl h
/-- what is within a least missing lot is a face -/
theorem miss_min {n : Nat} {ts : List Lot} {t l : Lot} (h : t ∈ miss n ts) (hl : IsLot (n : Int) l) (hne : l ≠ []) (s : sub l t = true) (hd : l ≠ t) : face ts l = true := by
  have ht := (miss_lot h).1
  obtain ⟨pre, post, e⟩ := List.append_of_mem (mem_lots.mpr ht)
  have hasc := lots_asc n
  have hnd := lots_nodup n
  rw [e] at hasc hnd
  have hll := mem_lots.mpr hl
  have hlen : l.length < t.length := by
    have := sub_len hl.asc ht.asc s
    rcases Nat.lt_or_ge l.length t.length with q | q
    · exact q
    · exact absurd (sub_eq hl.asc ht.asc s q) hd
  have hpre : l ∈ pre := by
    rw [e] at hll
    rcases List.mem_append.mp hll with q | q
    · exact q
    · rcases List.mem_cons.mp q with q | q
      · exact absurd q hd
      · have := (List.pairwise_append.mp hasc).2.1
        have := (List.pairwise_cons.mp this).1 l q
        have this : lexP ((t.length : Int), t) ((l.length : Int), l) = true := this
        unfold lexP at this
        split at this
        · rename_i q; have q : (t.length : Int) = (l.length : Int) := q; omega
        · have := of_decide_eq_true this
          have this : (t.length : Int) < (l.length : Int) := this
          omega
  cases hf : face ts l with
  | true => rfl
  | false =>
    exfalso
    unfold miss at h
    rw [e, List.foldl_append, List.foldl_cons] at h
    obtain ⟨o, ho, so⟩ := (miss_fold ts pre []).2.1 l hpre hne hf
    have hnd2 := (List.nodup_append.mp hnd)
    rcases (miss_fold ts post _).1 t h with q | q
    · rcases missStep_mem q with q | q
      · rcases (miss_fold ts pre []).1 t q with q | q
        · cases q
        · exact hnd2.2.2 t q.1 t List.mem_cons_self rfl
      · have := q o ho
        rw [sub_trans so s] at this; cases this
    · exact (List.nodup_cons.mp hnd2.2.1).1 q.1
theorem mem_miss {n : Nat} {ts : List Lot} {t : Lot} : t ∈ miss n ts ↔ IsLot (n : Int) t ∧ t ≠ [] ∧ face ts t = false ∧ ∀ l, IsLot (n : Int) l → l ≠ [] → sub l t = true → l ≠ t → face ts l = true := by
  constructor
  · intro h
    obtain ⟨a, b, c⟩ := miss_lot h
    exact ⟨a, b, c, fun l hl hne s hd => miss_min h hl hne s hd⟩
  · rintro ⟨a, b, c, d⟩
    obtain ⟨o, ho, s⟩ := miss_in a b c
    obtain ⟨o1, o2, o3⟩ := miss_lot ho
    by_cases e : o = t
    · rw [← e]; exact ho
    · rw [d o o1 o2 s e] at o3; cases o3
theorem faceE_ne {ts : List Lot} {l : Lot} (h : l ≠ []) : faceE ts l = face ts l := by
  unfold faceE; rw [decide_eq_false h, Bool.false_or]
theorem faceE_nil (ts : List Lot) : faceE ts [] = true := rfl
theorem faceE_sub {ts : List Lot} {k l : Lot} (h : faceE ts l = true) (s : sub k l = true) : faceE ts k = true := by
  obtain ⟨t, ht, s2⟩ := faceE_iff.mp h
  exact faceE_iff.mpr ⟨t, ht, sub_trans s s2⟩
theorem mem_missE {n : Nat} {ts : List Lot} {t : Lot} : t ∈ miss n ts ↔ IsLot (n : Int) t ∧ faceE ts t = false ∧ ∀ l, IsLot (n : Int) l → sub l t = true → l ≠ t → faceE ts l = true := by
  rw [mem_miss]
  constructor
  · rintro ⟨a, b, c, d⟩
    refine ⟨a, by rw [faceE_ne b]; exact c, fun l hl s e => ?_⟩
    by_cases hne : l = []
    · rw [hne]; rfl
    · rw [faceE_ne hne]; exact d l hl hne s e
  · rintro ⟨a, b, d⟩
    have hne : t ≠ [] := by
      intro e; rw [e] at b; cases b
    refine ⟨a, hne, by rw [← faceE_ne hne]; exact b, fun l hl hl2 s e => ?_⟩
    rw [← faceE_ne hl2]; exact d l hl s e
theorem shift_nil (m : Int) : shift [] m = [] := rfl
theorem sub_nil_l (l : Lot) : sub [] l = true := rfl
/-- the least missing lots of a join: those of either -/
theorem join_miss {n k : Nat} {ts us : List Lot} (h : ∀ t ∈ ts, IsLot (n : Int) t) (g : ∀ t ∈ us, IsLot (k : Int) t) : (miss (n + k) (topsOf (joinL n ts us))).Perm (miss n ts ++ (miss k us).map fun b => shift b (n : Int)) := by
  refine perm_of (miss_nodup _ _) (List.nodup_append.mpr ⟨miss_nodup _ _, nodup_map_of (miss_nodup _ _) fun a ha b hb e => ?_, fun a ha b hb e => ?_⟩) fun t => ?_
  · have := hi_cat (lot_nil (n : Int)) (miss_lot ha).1
    rw [← this, ← hi_cat (lot_nil (n : Int)) (miss_lot hb).1]
    show hi n ([] ++ shift a n) = hi n ([] ++ shift b n)
    have e : shift a (n : Int) = shift b (n : Int) := e
    rw [e]
  · obtain ⟨b, hb', rfl⟩ := List.mem_map.mp hb
    obtain ⟨b1, b2, b3⟩ := miss_lot hb'
    obtain ⟨x, hx⟩ := List.exists_mem_of_ne_nil b b2
    have hx' : x + (n : Int) ∈ a := by rw [e]; exact mem_shift.mpr (by rw [show x + (n : Int) - n = x by omega]; exact hx)
    have := (miss_lot ha).1.rng _ hx'
    have := b1.rng x hx
    omega
  · rw [List.mem_append, List.mem_map, mem_missE]
    constructor
    · rintro ⟨hl, hf, hm⟩
      have e := cat_lo_hi hl
      have ha := lot_lo hl
      have hb := lot_hi hl
      have hf2 := hf
      rw [← e, join_face h g ha hb] at hf2
      have key : ∀ a b, IsLot (n : Int) a → IsLot (k : Int) b → sub a (lo n t) = true → sub b (hi n t) = true → cat n a b ≠ t → faceE ts a = true ∧ faceE us b = true := by
        intro a b h1 h2 s1 s2 d
        have := hm (cat n a b) (lot_cat h1 h2) (by rw [← e, sub_cat h1 h2 ha hb, s1, s2]; rfl) d
        rw [join_face h g h1 h2, Bool.and_eq_true] at this
        exact this
      cases q : faceE ts (lo n t) with
      | false =>
        have hz : hi n t = [] := by
          by_cases z : hi n t = []
          · exact z
          · exfalso
            have := (key (lo n t) [] ha (lot_nil _) (sub_refl _) (sub_nil_l _) fun c => z (by rw [← hi_cat ha (lot_nil (k : Int)), c])).1
            rw [this] at q; cases q
        have et : lo n t = t := by
          have e2 := e
          rw [hz] at e2
          rw [← List.append_nil (lo n t)]; exact e2
        refine .inl (mem_missE.mpr ⟨by rw [← et]; exact ha, by rw [← et]; exact q, fun l hl s d => ?_⟩)
        refine (key l [] hl (lot_nil _) (by rw [et]; exact s) (sub_nil_l _) fun c => d ?_).1
        rw [← c]
        exact (List.append_nil l).symm
      | true =>
        rw [q, Bool.true_and] at hf2
        have hz : lo n t = [] := by
          by_cases z : lo n t = []
          · exact z
          · exfalso
            have := (key [] (hi n t) (lot_nil _) hb (sub_nil_l _) (sub_refl _) fun c => z (by rw [← lo_cat (lot_nil (n : Int)) hb, c])).2
            rw [this] at hf2; cases hf2
        have et : shift (hi n t) n = t := by
          have e2 := e
          rw [hz] at e2
          exact e2
        refine .inr ⟨hi n t, mem_missE.mpr ⟨hb, hf2, fun l hl s d => ?_⟩, et⟩
        refine (key [] l (lot_nil _) hl (sub_nil_l _) s fun c => d ?_).2
        rw [← c, hi_cat (lot_nil (n : Int)) hl]
    · rintro (q | ⟨b, q, rfl⟩)
      · obtain ⟨a1, a2, a3⟩ := mem_missE.mp q
        have et : cat n t [] = t := List.append_nil t
        refine ⟨et ▸ lot_cat a1 (lot_nil (k : Int)), ?_, fun l hl s d => ?_⟩
        · rw [← et, join_face h g a1 (lot_nil _), a2]; rfl
        · have e := cat_lo_hi hl
          rw [← e, ← et, sub_cat (lot_lo hl) (lot_hi hl) a1 (lot_nil _), Bool.and_eq_true] at s
          have hz : hi n l = [] := by
            cases hh : hi n l with
            | nil => rfl
            | cons x xs =>
              rw [hh] at s
              exact absurd (sub_iff.mp s.2 x List.mem_cons_self) List.not_mem_nil
          have el : lo n l = l := by
            have e2 := e
            rw [hz] at e2
            rw [← List.append_nil (lo n l)]; exact e2
          rw [← e, join_face h g (lot_lo hl) (lot_hi hl), hz, a3 _ (lot_lo hl) s.1 (by rw [el]; exact d)]; rfl
      · obtain ⟨a1, a2, a3⟩ := mem_missE.mp q
        have et : cat n [] b = shift b n := rfl
        refine ⟨et ▸ lot_cat (lot_nil (n : Int)) a1, ?_, fun l hl s d => ?_⟩
        · rw [← et, join_face h g (lot_nil _) a1, a2]; rfl
        · have e := cat_lo_hi hl
          rw [← e, ← et, sub_cat (lot_lo hl) (lot_hi hl) (lot_nil _) a1, Bool.and_eq_true] at s
          have hz : lo n l = [] := by
            cases hh : lo n l with
            | nil => rfl
            | cons x xs =>
              rw [hh] at s
              exact absurd (sub_iff.mp s.1 x List.mem_cons_self) List.not_mem_nil
          have el : shift (hi n l) n = l := by
            have e2 := e
            rw [hz] at e2
            exact e2
          rw [← e, join_face h g (lot_lo hl) (lot_hi hl), hz, a3 _ (lot_hi hl) s.2 (fun c => d (by rw [← el, c]))]; rfl
theorem join_miss_len {n k : Nat} {ts us : List Lot} (h : ∀ t ∈ ts, IsLot (n : Int) t) (g : ∀ t ∈ us, IsLot (k : Int) t) : (miss (n + k) (topsOf (joinL n ts us))).length = (miss n ts).length + (miss k us).length := by
  rw [(join_miss h g).length_eq, List.length_append, List.length_map]
theorem miss_pt : miss 1 [[0]] = [] := by decide +kernel
theorem join_flag {n k : Nat} {ts us : List Lot} (h : ∀ t ∈ ts, IsLot (n : Int) t) (g : ∀ t ∈ us, IsLot (k : Int) t) : flagB (n + k) (topsOf (joinL n ts us)) = (flagB n ts && flagB k us) := by
  unfold flagB
  have e : ∀ b : Lot, (shift b (n : Int)).length = b.length := fun b => List.length_map ..
  rw [Bool.eq_iff_iff, Bool.and_eq_true, List.all_eq_true, List.all_eq_true, List.all_eq_true]
  constructor
  · intro q
    refine ⟨fun l hl => q l ((join_miss h g).mem_iff.mpr (List.mem_append_left _ hl)), fun l hl => ?_⟩
    have := q _ ((join_miss h g).mem_iff.mpr (List.mem_append_right _ (List.mem_map.mpr ⟨l, hl, rfl⟩)))
    rw [e] at this; exact this
  · rintro ⟨q1, q2⟩ l hl
    rcases List.mem_append.mp ((join_miss h g).mem_iff.mp hl) with q | q
    · exact q1 l q
    · obtain ⟨b, hb, rfl⟩ := List.mem_map.mp q
      rw [e]; exact q2 b hb
end K09
end

section
set_option Elab.async false
set_option linter.all false
set_option maxRecDepth 100000
set_option maxHeartbeats 2000000
namespace K09
open PySem DD MM
open Dat (enc)

/-! counts told by the faces -/
/-- how many faces of i + 1 points -/
def fN (n : Nat) (ts : List Lot) (i : Nat) : Nat := (facesAt n ts ((0 : Int) + (i : Nat))).length
theorem take_lot {m : Int} {l : Lot} (h : IsLot m l) (k : Nat) : IsLot m (l.take k) := ⟨h.asc.sublist (List.take_sublist _ _), fun x hx => h.rng x (List.mem_of_mem_take hx)⟩
theorem take_sub (l : Lot) (k : Nat) : sub (l.take k) l = true := sub_iff.mpr fun x hx => List.mem_of_mem_take hx
theorem maxI_mem {ns : List Int} {k : Int} (h : maxI ns = some k) : k ∈ ns := by
  cases ns with
  | nil => cases h
  | cons n ns => cases h; exact maxF_mem ns n
/-- there is a face of i + 1 points just if i is at most the dimension -/
theorem fN_pos {n : Nat} {ts : List Lot} (h : Tops (n : Int) ts) (hn : n ≤ 7) (i : Nat) : 0 < fN n ts i ↔ i < (dimOf ts + 1).toNat := by
  unfold fN facesAt
  rw [List.length_filter_pos_iff]
  constructor
  · rintro ⟨l, hl, e⟩
    have := face_dim h hn l hl
    have := of_decide_eq_true e
    omega
  · intro hi
    have hd : ∃ t ∈ ts, (t.length : Int) = dimOf ts + 1 := by
      unfold dimOf at hi ⊢
      cases e : maxI (ts.map (fun t => (t.length : Int)) ++ [0]) with
      | none => rw [e] at hi; simp at hi
      | some k =>
        rw [e] at hi
        have hi : i < (k - 1 + 1).toNat := hi
        rcases List.mem_append.mp (maxI_mem e) with q | q
        · obtain ⟨t, ht, q⟩ := List.mem_map.mp q
          exact ⟨t, ht, by show _ = k - 1 + 1; omega⟩
        · have := List.mem_singleton.mp q
          omega
    obtain ⟨t, ht, e⟩ := hd
    have hl : (t.take (i + 1)).length = i + 1 := by rw [List.length_take]; omega
    refine ⟨t.take (i + 1), mem_facesOf.mpr ⟨take_lot (h.lot t ht) _, face_iff.mpr ⟨fun q => ?_, t, ht, take_sub _ _⟩⟩, decide_eq_true (by omega)⟩
    rw [q] at hl; cases hl
theorem counts_eq (n : Nat) (ts : List Lot) : counts n ts = (List.range (dimOf ts + 1).toNat).map fun i => (fN n ts i : Int) := rfl
/-- the numbers of faces tell the counts, up to a dimension -/
theorem counts_take {n m : Nat} {ts us : List Lot} (h : Tops (n : Int) ts) (hn : n ≤ 7) (g : Tops (m : Int) us) (hm : m ≤ 7) (k : Nat) (e : ∀ i, fN n ts i = if i < k then fN m us i else 0) : counts n ts = (counts m us).take k := by
  rw [counts_eq, counts_eq, ← List.map_take, List.take_range]
  have hD : (dimOf ts + 1).toNat = min k (dimOf us + 1).toNat := by
    have a := fN_pos h hn
    have b := fN_pos g hm
    have key : ∀ i, i < (dimOf ts + 1).toNat ↔ i < k ∧ i < (dimOf us + 1).toNat := by
      intro i
      rw [← a, ← b, e]
      by_cases c : i < k
      · rw [if_pos c]; exact ⟨fun q => ⟨c, q⟩, fun q => q.2⟩
      · rw [if_neg c]; exact ⟨fun q => absurd q (Nat.lt_irrefl 0), fun q => absurd q.1 c⟩
    have k1 := key (dimOf ts + 1).toNat
    have k2 := key (min k (dimOf us + 1).toNat)
    omega
  rw [hD]
  refine List.map_congr_left fun i hi => ?_
  have := List.mem_range.mp hi
  rw [e, if_pos (by omega)]
theorem counts_ext {n m : Nat} {ts us : List Lot} (h : Tops (n : Int) ts) (hn : n ≤ 7) (g : Tops (m : Int) us) (hm : m ≤ 7) (e : ∀ i, fN n ts i = fN m us i) : counts n ts = counts m us := by
  have := counts_take h hn g hm (max ((dimOf ts + 1).toNat) ((dimOf us + 1).toNat)) fun i => by
    split
    · exact e i
    · have := fN_pos h hn i
      omega
  rw [this, List.take_of_length_le]
  rw [counts_eq, List.length_map, List.length_range]
  omega

/-! skeletons -/
def skelL (n : Nat) (ts : List Lot) (d : Int) : List Lot := (facesOf n ts).filter fun l => !decide (d + 1 < (l.length : Int))
theorem skel_lot {n : Nat} {ts : List Lot} {d : Int} : ∀ l ∈ skelL n ts d, IsLot (n : Int) l := fun l hl => facesOf_lot l (List.mem_filter.mp hl).1
theorem skel_face {n : Nat} {ts : List Lot} (d : Int) {l : Lot} (hl : IsLot (n : Int) l) : face (topsOf (skelL n ts d)) l = (face ts l && !decide (d + 1 < (l.length : Int))) := by
  rw [face_topsOf skel_lot, Bool.eq_iff_iff, Bool.and_eq_true, face_iff]
  constructor
  · rintro ⟨hne, t, ht, s⟩
    obtain ⟨t1, t2⟩ := List.mem_filter.mp ht
    have tl := (mem_facesOf.mp t1).1
    have := sub_len hl.asc tl.asc s
    refine ⟨face_sub (mem_facesOf.mp t1).2 hne s, ?_⟩
    rw [Bool.not_eq_true', decide_eq_false_iff_not] at t2 ⊢
    omega
  · rintro ⟨a, b⟩
    exact ⟨(face_iff.mp a).1, l, List.mem_filter.mpr ⟨mem_facesOf.mpr ⟨hl, a⟩, b⟩, sub_refl l⟩
theorem skel_counts {n : Nat} {ts : List Lot} (h : Tops (n : Int) ts) (hn : n ≤ 7) (d : Nat) : counts n (topsOf (skelL n ts (d : Int))) = (counts n ts).take (d + 1) := by
  refine counts_take (tops_topsOf skel_lot) hn h hn (d + 1) fun i => ?_
  unfold fN facesAt
  have hp : ∀ i : Nat, ((facesOf n (topsOf (skelL n ts (d : Int)))).filter fun l => decide ((l.length : Int) = 0 + (i : Nat) + 1)).Perm (if i < d + 1 then (facesOf n ts).filter fun l => decide ((l.length : Int) = 0 + (i : Nat) + 1) else []) := by
    intro i
    split
    · rename_i hi
      refine perm_of (List.Pairwise.filter _ (facesOf_nodup _ _)) (List.Pairwise.filter _ (facesOf_nodup _ _)) fun l => ?_
      rw [List.mem_filter, List.mem_filter, mem_facesOf, mem_facesOf, decide_eq_true_eq]
      constructor
      · rintro ⟨⟨a, b⟩, c⟩
        rw [skel_face _ a, Bool.and_eq_true] at b
        exact ⟨⟨a, b.1⟩, c⟩
      · rintro ⟨⟨a, b⟩, c⟩
        refine ⟨⟨a, ?_⟩, c⟩
        rw [skel_face _ a, b, Bool.true_and, Bool.not_eq_true', decide_eq_false_iff_not]
        omega
    · rename_i hi
      refine List.Perm.of_eq (List.filter_eq_nil_iff.mpr fun l hl => ?_)
      obtain ⟨a, b⟩ := mem_facesOf.mp hl
      rw [skel_face _ a, Bool.and_eq_true, Bool.not_eq_true', decide_eq_false_iff_not] at b
      rw [decide_eq_true_eq]
      omega
  rw [(hp i).length_eq]
  split <;> rfl

/-! renaming -/
structure Names (n : Nat) (names : List Int) : Prop where
  srt : isort names = pts n
theorem Names.perm {n : Nat} {names : List Int} (h : Names n names) : names.Perm (pts n) := by
  have := (isort_perm names).symm
  rw [h.srt] at this; exact this
theorem names_of {n : Nat} {names : List Int} (h : names.Perm (pts n)) : Names n names := by
  have hnd : names.Nodup := h.symm.nodup (asc_nodup (ascInt (pts_asc n)))
  exact ⟨asc_ext (isort_asc _ hnd) (ascInt (pts_asc n)) fun x => by rw [mem_isort]; exact h.mem_iff⟩
theorem Names.len {n : Nat} {names : List Int} (h : Names n names) : names.length = n := by rw [h.perm.length_eq, pts_len]
theorem Names.nodup {n : Nat} {names : List Int} (h : Names n names) : names.Nodup := h.perm.symm.nodup (asc_nodup (ascInt (pts_asc n)))
theorem nameAt_eq {n : Nat} {names : List Int} (h : Names n names) {p : Int} (h0 : 0 ≤ p) (hp : p < n) : ∃ hi : p.toNat < names.length, nameAt names p = names[p.toNat] := by
  have hi : p.toNat < names.length := by rw [h.len]; omega
  refine ⟨hi, ?_⟩
  unfold nameAt
  rw [List.getD_eq_getElem?_getD, List.getElem?_eq_getElem hi]; rfl
theorem nameAt_rng {n : Nat} {names : List Int} (h : Names n names) {p : Int} (h0 : 0 ≤ p) (hp : p < n) : 0 ≤ nameAt names p ∧ nameAt names p < n := by
  obtain ⟨hi, e⟩ := nameAt_eq h h0 hp
  rw [e]
  exact mem_pts.mp (h.perm.mem_iff.mp (List.getElem_mem hi))
theorem nameAt_inj {n : Nat} {names : List Int} (h : Names n names) {p q : Int} (h0 : 0 ≤ p) (hp : p < n) (g0 : 0 ≤ q) (hq : q < n) (e : nameAt names p = nameAt names q) : p = q := by
  obtain ⟨hi, e1⟩ := nameAt_eq h h0 hp
  obtain ⟨hj, e2⟩ := nameAt_eq h g0 hq
  rw [e1, e2] at e
  have hd := List.pairwise_iff_getElem.mp h.nodup
  rcases Nat.lt_trichotomy p.toNat q.toNat with c | c | c
  · exact absurd e (hd _ _ hi hj c)
  · omega
  · exact absurd e.symm (hd _ _ hj hi c)
theorem nameAt_surj {n : Nat} {names : List Int} (h : Names n names) {x : Int} (h0 : 0 ≤ x) (hx : x < n) : ∃ p : Int, 0 ≤ p ∧ p < n ∧ nameAt names p = x := by
  obtain ⟨i, hi, e⟩ := List.mem_iff_getElem.mp (h.perm.mem_iff.mpr (mem_pts.mpr ⟨h0, hx⟩))
  have hl := h.len
  obtain ⟨_, e2⟩ := nameAt_eq h (p := (i : Int)) (by omega) (by omega)
  refine ⟨(i : Int), by omega, by omega, ?_⟩
  rw [e2, ← e]; rfl
def ren (names : List Int) (l : Lot) : Lot := isort (l.map (nameAt names))
theorem mem_ren {names : List Int} {l : Lot} {x : Int} : x ∈ ren names l ↔ ∃ p ∈ l, nameAt names p = x := by
  unfold ren
  rw [mem_isort, List.mem_map]
theorem ren_len (names : List Int) (l : Lot) : (ren names l).length = l.length := by
  unfold ren
  rw [isort_len, List.length_map]
section
variable {n : Nat} {names : List Int} (h : Names n names)
include h
theorem mem_ren_at {l : Lot} (hl : IsLot (n : Int) l) {p : Int} (h0 : 0 ≤ p) (hp : p < n) : nameAt names p ∈ ren names l ↔ p ∈ l := by
  rw [mem_ren]
  constructor
  · rintro ⟨q, hq, e⟩
    have := hl.rng q hq
    rw [← nameAt_inj h this.1 this.2 h0 hp e]; exact hq
  · intro q
    exact ⟨p, q, rfl⟩
theorem lot_ren {l : Lot} (hl : IsLot (n : Int) l) : IsLot (n : Int) (ren names l) where
  asc := by
    refine intAsc (isort_asc _ (nodup_map_of (asc_nodup (ascInt hl.asc)) fun a ha b hb e => ?_))
    have := hl.rng a ha
    have := hl.rng b hb
    exact nameAt_inj h (by omega) (by omega) (by omega) (by omega) e
  rng x hx := by
    obtain ⟨p, hp, rfl⟩ := mem_ren.mp hx
    have := hl.rng p hp
    exact nameAt_rng h this.1 this.2
theorem sub_ren {a b : Lot} (ha : IsLot (n : Int) a) (hb : IsLot (n : Int) b) : sub (ren names a) (ren names b) = sub a b := by
  rw [Bool.eq_iff_iff, sub_iff, sub_iff]
  constructor
  · intro q x hx
    have hr := ha.rng x hx
    exact (mem_ren_at h hb hr.1 hr.2).mp (q _ ((mem_ren_at h ha hr.1 hr.2).mpr hx))
  · intro q x hx
    obtain ⟨p, hp, rfl⟩ := mem_ren.mp hx
    exact mem_ren.mpr ⟨p, q p hp, rfl⟩
theorem ren_inj {a b : Lot} (ha : IsLot (n : Int) a) (hb : IsLot (n : Int) b) (e : ren names a = ren names b) : a = b := by
  refine sub_anti ha.asc hb.asc ?_ ?_
  · rw [← sub_ren h ha hb, e]; exact sub_refl _
  · rw [← sub_ren h hb ha, e]; exact sub_refl _
theorem ren_surj {l : Lot} (hl : IsLot (n : Int) l) : ∃ a, IsLot (n : Int) a ∧ ren names a = l := by
  have ha : IsLot (n : Int) ((pts n).filter fun p => decide (nameAt names p ∈ l)) := filter_lot (pts_lot n) _
  refine ⟨_, ha, asc_ext (ascInt (lot_ren h ha).asc) (ascInt hl.asc) fun x => ?_⟩
  rw [mem_ren]
  constructor
  · rintro ⟨p, hp, rfl⟩
    exact of_decide_eq_true (List.mem_filter.mp hp).2
  · intro hx
    obtain ⟨p, h0, hp, e⟩ := nameAt_surj h (hl.rng x hx).1 (hl.rng x hx).2
    exact ⟨p, List.mem_filter.mpr ⟨mem_pts.mpr ⟨h0, hp⟩, decide_eq_true (by rw [e]; exact hx)⟩, e⟩
theorem mem_renL {ts : List Lot} {t : Lot} : t ∈ renL names ts ↔ ∃ u ∈ ts, ren names u = t := by
  unfold renL
  rw [mem_isort, List.mem_map]; rfl
theorem ren_ne {l : Lot} : ren names l = [] ↔ l = [] := by
  rw [← List.length_eq_zero_iff, ren_len, List.length_eq_zero_iff]
theorem face_ren {ts : List Lot} (g : ∀ t ∈ ts, IsLot (n : Int) t) {l : Lot} (hl : IsLot (n : Int) l) : face (renL names ts) (ren names l) = face ts l := by
  rw [Bool.eq_iff_iff, face_iff, face_iff]
  constructor
  · rintro ⟨a, t, ht, s⟩
    obtain ⟨u, hu, rfl⟩ := (mem_renL h).mp ht
    rw [sub_ren h hl (g u hu)] at s
    exact ⟨fun e => a ((ren_ne h).mpr e), u, hu, s⟩
  · rintro ⟨a, t, ht, s⟩
    exact ⟨fun e => a ((ren_ne h).mp e), _, (mem_renL h).mpr ⟨t, ht, rfl⟩, by rw [sub_ren h hl (g t ht)]; exact s⟩
theorem tops_ren {ts : List Lot} (g : Tops (n : Int) ts) : Tops (n : Int) (renL names ts) where
  lot t ht := by
    obtain ⟨u, hu, rfl⟩ := (mem_renL h).mp ht
    exact lot_ren h (g.lot u hu)
  ne t ht := by
    obtain ⟨u, hu, rfl⟩ := (mem_renL h).mp ht
    exact fun e => g.ne u hu ((ren_ne h).mp e)
  asc := isort_asc _ (nodup_map_of (asc_nodup g.asc) fun a ha b hb e => ren_inj h (g.lot a ha) (g.lot b hb) e)
  anti t ht u hu s := by
    obtain ⟨a, ha, rfl⟩ := (mem_renL h).mp ht
    obtain ⟨b, hb, rfl⟩ := (mem_renL h).mp hu
    rw [sub_ren h (g.lot a ha) (g.lot b hb)] at s
    rw [g.anti a ha b hb s]
theorem okB_ren {ts : List Lot} (g : OkB n ts) : OkB n (renL names ts) where
  n1 := g.n1
  n7 := g.n7
  len := by unfold renL; rw [isort_len, List.length_map]; exact g.len
  tops := tops_ren h g.tops
theorem faces_ren {ts : List Lot} (g : Tops (n : Int) ts) : (facesOf n (renL names ts)).Perm ((facesOf n ts).map (ren names)) := by
  refine perm_of (facesOf_nodup _ _) (nodup_map_of (facesOf_nodup _ _) fun a ha b hb e => ren_inj h (facesOf_lot a ha) (facesOf_lot b hb) e) fun l => ?_
  rw [mem_facesOf, List.mem_map]
  constructor
  · rintro ⟨hl, hf⟩
    obtain ⟨a, ha, rfl⟩ := ren_surj h hl
    rw [face_ren h g.lot ha] at hf
    exact ⟨a, mem_facesOf.mpr ⟨ha, hf⟩, rfl⟩
  · rintro ⟨a, ha, rfl⟩
    obtain ⟨a1, a2⟩ := mem_facesOf.mp ha
    exact ⟨lot_ren h a1, by rw [face_ren h g.lot a1]; exact a2⟩
theorem counts_ren {ts : List Lot} (g : Tops (n : Int) ts) (hn : n ≤ 7) : counts n (renL names ts) = counts n ts := by
  refine counts_ext (tops_ren h g) hn g hn fun i => ?_
  unfold fN facesAt
  rw [((faces_ren h g).filter _).length_eq, List.filter_map, List.length_map]
  congr 1
  refine List.filter_congr fun l hl => ?_
  show decide (((ren names l).length : Int) = _) = _
  rw [ren_len]
theorem miss_ren {ts : List Lot} (g : Tops (n : Int) ts) {t : Lot} : t ∈ miss n (renL names ts) ↔ ∃ u ∈ miss n ts, ren names u = t := by
  constructor
  · intro q
    obtain ⟨a1, a2, a3, a4⟩ := mem_miss.mp q
    obtain ⟨u, hu, rfl⟩ := ren_surj h a1
    refine ⟨u, mem_miss.mpr ⟨hu, fun e => a2 ((ren_ne h).mpr e), by rw [← face_ren h g.lot hu]; exact a3, fun l hl hne s d => ?_⟩, rfl⟩
    rw [← face_ren h g.lot hl]
    exact a4 _ (lot_ren h hl) (fun e => hne ((ren_ne h).mp e)) (by rw [sub_ren h hl hu]; exact s) fun e => d (ren_inj h hl hu e)
  · rintro ⟨u, q, rfl⟩
    obtain ⟨a1, a2, a3, a4⟩ := mem_miss.mp q
    refine mem_miss.mpr ⟨lot_ren h a1, fun e => a2 ((ren_ne h).mp e), by rw [face_ren h g.lot a1]; exact a3, fun l hl hne s d => ?_⟩
    obtain ⟨k, hk, rfl⟩ := ren_surj h hl
    rw [face_ren h g.lot hk]
    rw [sub_ren h hk a1] at s
    exact a4 k hk (fun e => hne ((ren_ne h).mpr e)) s fun e => d (by rw [e])
theorem flag_ren {ts : List Lot} (g : Tops (n : Int) ts) : flagB n (renL names ts) = flagB n ts := by
  unfold flagB
  rw [Bool.eq_iff_iff, List.all_eq_true, List.all_eq_true]
  constructor
  · intro q l hl
    have := q _ ((miss_ren h g).mpr ⟨l, hl, rfl⟩)
    rw [ren_len] at this; exact this
  · intro q l hl
    obtain ⟨u, hu, rfl⟩ := (miss_ren h g).mp hl
    rw [ren_len]; exact q u hu
end
end K09
end

section
set_option Elab.async false
set_option linter.all false
set_option maxRecDepth 100000
set_option maxHeartbeats 2000000
namespace K09
open PySem DD MM
open Dat (enc)

/-! links, stars, what is left without a face -/
theorem mem_restOf {t f : Lot} {x : Int} : x ∈ restOf t f ↔ x ∈ t ∧ x ∉ f := by
  unfold restOf
  rw [List.mem_filter, Bool.not_eq_true', ← Bool.not_eq_true, memB_iff]
theorem rest_lot {m : Int} {t : Lot} (h : IsLot m t) (f : Lot) : IsLot m (restOf t f) := filter_lot h _
theorem link_lot {n : Nat} {ts : List Lot} (h : ∀ t ∈ ts, IsLot (n : Int) t) (f : Lot) : ∀ l ∈ linkL ts f, IsLot (n : Int) l := by
  intro l hl
  unfold linkL at hl
  obtain ⟨t, ht, rfl⟩ := List.mem_map.mp hl
  exact rest_lot (h t (List.mem_filter.mp ht).1) f
theorem mem_linkL {ts : List Lot} {f l : Lot} : l ∈ linkL ts f ↔ ∃ t ∈ ts, sub f t = true ∧ restOf t f = l := by
  unfold linkL
  rw [List.mem_map]
  constructor
  · rintro ⟨t, ht, e⟩
    obtain ⟨a, b⟩ := List.mem_filter.mp ht
    exact ⟨t, a, b, e⟩
  · rintro ⟨t, a, b, e⟩
    exact ⟨t, List.mem_filter.mpr ⟨a, b⟩, e⟩
/-- both together -/
def both (a f : Lot) : Lot := isort (a ++ f)
theorem mem_both {a f : Lot} {x : Int} : x ∈ both a f ↔ x ∈ a ∨ x ∈ f := by
  unfold both
  rw [mem_isort, List.mem_append]
theorem both_lot {m : Int} {a f : Lot} (ha : IsLot m a) (hf : IsLot m f) (hd : ∀ x ∈ a, x ∉ f) : IsLot m (both a f) where
  asc := intAsc (isort_asc _ (List.nodup_append.mpr ⟨asc_nodup (ascInt ha.asc), asc_nodup (ascInt hf.asc), fun x hx y hy e => hd x hx (by rw [e]; exact hy)⟩))
  rng x hx := by
    rcases mem_both.mp hx with q | q
    · exact ha.rng x q
    · exact hf.rng x q
theorem link_apart {ts : List Lot} {f l : Lot} (h : l ∈ linkL ts f) : ∀ x ∈ l, x ∉ f := by
  obtain ⟨t, _, _, rfl⟩ := mem_linkL.mp h
  exact fun x hx => (mem_restOf.mp hx).2
/-- the star: the tops of the link with the face, and the face -/
theorem star_eq {n : Nat} {ts : List Lot} {f : Lot} (h : Tops (n : Int) ts) (hf : f ∈ facesOf n ts) : topsOf (((topsOf (linkL ts f)).map fun t => both t f) ++ [f]) = topsOf (starL ts f) ∧ (∀ l ∈ ((topsOf (linkL ts f)).map fun t => both t f) ++ [f], IsLot (n : Int) l) := by
  obtain ⟨f1, f2⟩ := mem_facesOf.mp hf
  have hl : ∀ l ∈ ((topsOf (linkL ts f)).map fun t => both t f) ++ [f], IsLot (n : Int) l := by
    intro l hl
    rcases List.mem_append.mp hl with q | q
    · obtain ⟨t, ht, rfl⟩ := List.mem_map.mp q
      have ht := (mem_topsOf.mp ht).1
      exact both_lot (link_lot h.lot f t ht) f1 (link_apart ht)
    · rw [List.mem_singleton.mp q]; exact f1
  have hs : ∀ l ∈ starL ts f, IsLot (n : Int) l := fun l hl => h.lot l (List.mem_filter.mp hl).1
  refine ⟨tops_ext (tops_topsOf hl) (tops_topsOf hs) fun l _ => ?_, hl⟩
  rw [face_topsOf hl, face_topsOf hs, Bool.eq_iff_iff, face_iff, face_iff]
  refine and_congr Iff.rfl ⟨?_, ?_⟩
  · rintro ⟨t, ht, s⟩
    rcases List.mem_append.mp ht with q | q
    · obtain ⟨r, hr, rfl⟩ := List.mem_map.mp q
      obtain ⟨t, h1, h2, rfl⟩ := mem_linkL.mp (mem_topsOf.mp hr).1
      refine ⟨t, List.mem_filter.mpr ⟨h1, h2⟩, sub_iff.mpr fun x hx => ?_⟩
      rcases mem_both.mp (sub_iff.mp s x hx) with q | q
      · exact (mem_restOf.mp q).1
      · exact sub_iff.mp h2 x q
    · rw [List.mem_singleton.mp q] at s
      obtain ⟨_, t, h1, h2⟩ := face_iff.mp f2
      exact ⟨t, List.mem_filter.mpr ⟨h1, h2⟩, sub_trans s h2⟩
  · rintro ⟨t, ht, s⟩
    obtain ⟨h1, h2⟩ := List.mem_filter.mp ht
    by_cases c : restOf t f = []
    · refine ⟨f, List.mem_append_right _ (List.mem_singleton.mpr rfl), sub_iff.mpr fun x hx => ?_⟩
      by_cases q : x ∈ f
      · exact q
      · have := mem_restOf.mpr ⟨sub_iff.mp s x hx, q⟩
        rw [c] at this; cases this
    · have : face (topsOf (linkL ts f)) (restOf t f) = true := by
        rw [face_topsOf (link_lot h.lot f), face_iff]
        exact ⟨c, _, mem_linkL.mpr ⟨t, h1, h2, rfl⟩, sub_refl _⟩
      obtain ⟨_, r, hr, s2⟩ := face_iff.mp this
      refine ⟨both r f, List.mem_append_left _ (List.mem_map.mpr ⟨r, hr, rfl⟩), sub_iff.mpr fun x hx => mem_both.mpr ?_⟩
      by_cases q : x ∈ f
      · exact .inr q
      · exact .inl (sub_iff.mp s2 x (mem_restOf.mpr ⟨sub_iff.mp s x hx, q⟩))
theorem without_lot {n : Nat} {ts : List Lot} {f : Lot} : ∀ l ∈ withoutL n ts f, IsLot (n : Int) l := fun l hl => facesOf_lot l (List.mem_filter.mp hl).1
theorem without_faces {n : Nat} {ts : List Lot} {f : Lot} : facesOf n (topsOf (withoutL n ts f)) = (facesOf n ts).filter fun l => !sub f l := by
  unfold facesOf
  rw [List.filter_filter]
  refine List.filter_congr fun l hl => ?_
  rw [face_topsOf without_lot, Bool.eq_iff_iff, Bool.and_eq_true, face_iff]
  constructor
  · rintro ⟨hne, t, ht, s⟩
    obtain ⟨t1, t2⟩ := List.mem_filter.mp ht
    refine ⟨?_, face_sub (mem_facesOf.mp t1).2 hne s⟩
    rw [Bool.not_eq_true'] at t2 ⊢
    cases q : sub f l with
    | false => rfl
    | true => rw [sub_trans q s] at t2; cases t2
  · rintro ⟨a, b⟩
    exact ⟨(face_iff.mp b).1, l, List.mem_filter.mpr ⟨mem_facesOf.mpr ⟨mem_lots.mp hl, b⟩, a⟩, sub_refl l⟩
/-- the faces about a face: those of the link, and the face alone -/
theorem link_faces {n : Nat} {ts : List Lot} {f : Lot} (h : Tops (n : Int) ts) (hf : f ∈ facesOf n ts) : (facesE n (topsOf (linkL ts f))).Perm (((facesOf n ts).filter fun l => sub f l).map fun l => restOf l f) := by
  obtain ⟨f1, f2⟩ := mem_facesOf.mp hf
  have hf0 := (face_iff.mp f2).1
  refine perm_of (facesE_nodup _ _) (nodup_map_of (List.Pairwise.filter _ (facesOf_nodup _ _)) fun a ha b hb e => ?_) fun l => ?_
  · obtain ⟨a1, a2⟩ := List.mem_filter.mp ha
    obtain ⟨b1, b2⟩ := List.mem_filter.mp hb
    refine asc_ext (ascInt (facesOf_lot a a1).asc) (ascInt (facesOf_lot b b1).asc) fun x => ?_
    by_cases q : x ∈ f
    · exact ⟨fun _ => sub_iff.mp b2 x q, fun _ => sub_iff.mp a2 x q⟩
    · have e : restOf a f = restOf b f := e
      constructor
      · intro r
        have := mem_restOf.mpr ⟨r, q⟩
        rw [e] at this; exact (mem_restOf.mp this).1
      · intro r
        have := mem_restOf.mpr ⟨r, q⟩
        rw [← e] at this; exact (mem_restOf.mp this).1
  · rw [mem_facesE, List.mem_map]
    constructor
    · rintro ⟨hl, q⟩
      have hap : (∀ x ∈ l, x ∉ f) ∧ ∃ t ∈ ts, sub f t = true ∧ sub l t = true := by
        unfold faceE at q
        rw [face_topsOf (link_lot h.lot f), Bool.or_eq_true, decide_eq_true_eq, face_iff] at q
        rcases q with q | ⟨_, r, hr, s⟩
        · subst q
          obtain ⟨_, t, h1, h2⟩ := face_iff.mp f2
          exact ⟨fun x hx => (by cases hx), t, h1, h2, rfl⟩
        · obtain ⟨t, h1, h2, rfl⟩ := mem_linkL.mp hr
          exact ⟨fun x hx => (mem_restOf.mp (sub_iff.mp s x hx)).2, t, h1, h2, sub_iff.mpr fun x hx => (mem_restOf.mp (sub_iff.mp s x hx)).1⟩
      obtain ⟨hap, t, h1, h2, h3⟩ := hap
      have hb := both_lot hl f1 hap
      refine ⟨both l f, List.mem_filter.mpr ⟨mem_facesOf.mpr ⟨hb, face_iff.mpr ⟨fun e => ?_, t, h1, sub_iff.mpr fun x hx => ?_⟩⟩, sub_iff.mpr fun x hx => mem_both.mpr (.inr hx)⟩, ?_⟩
      · obtain ⟨x, hx⟩ := List.exists_mem_of_ne_nil f hf0
        have := mem_both.mpr (.inr hx : x ∈ l ∨ x ∈ f)
        rw [e] at this; cases this
      · rcases mem_both.mp hx with r | r
        · exact sub_iff.mp h3 x r
        · exact sub_iff.mp h2 x r
      · refine asc_ext (ascInt (rest_lot hb f).asc) (ascInt hl.asc) fun x => ?_
        rw [mem_restOf, mem_both]
        constructor
        · rintro ⟨r | r, d⟩
          · exact r
          · exact absurd r d
        · intro r
          exact ⟨.inl r, hap x r⟩
    · rintro ⟨k, hk, rfl⟩
      obtain ⟨k1, k2⟩ := List.mem_filter.mp hk
      obtain ⟨k3, k4⟩ := mem_facesOf.mp k1
      refine ⟨rest_lot k3 f, ?_⟩
      unfold faceE
      rw [face_topsOf (link_lot h.lot f), Bool.or_eq_true, decide_eq_true_eq, face_iff]
      by_cases c : restOf k f = []
      · exact .inl c
      · obtain ⟨_, t, h1, h2⟩ := face_iff.mp k4
        refine .inr ⟨c, _, mem_linkL.mpr ⟨t, h1, sub_trans k2 h2, rfl⟩, sub_iff.mpr fun x hx => ?_⟩
        obtain ⟨a, b⟩ := mem_restOf.mp hx
        exact mem_restOf.mpr ⟨sub_iff.mp h2 x a, b⟩
/-- counted: without the face, and about it -/
theorem link_count {n : Nat} {ts : List Lot} {f : Lot} (h : Tops (n : Int) ts) (hf : f ∈ facesOf n ts) : (facesOf n (topsOf (withoutL n ts f))).length + (facesOf n (topsOf (linkL ts f))).length + 1 = (facesOf n ts).length := by
  have a := (link_faces h hf).length_eq
  rw [facesE_len, List.length_map] at a
  have b := (List.filter_append_perm (fun l => sub f l) (facesOf n ts)).length_eq
  rw [List.length_append] at b
  rw [without_faces]
  omega
end K09
end

section
set_option Elab.async false
set_option linter.all false
set_option maxRecDepth 100000
set_option maxHeartbeats 2000000
namespace K09
open PySem DD MM
open Dat (enc)

/-! a join the other way round -/
def turn (n k : Nat) : List Int := shift (pts n) (k : Int) ++ pts k
theorem mem_shift_pts {n k : Nat} {x : Int} : x ∈ shift (pts n) (k : Int) ↔ (k : Int) ≤ x ∧ x < n + k := by
  rw [mem_shift, mem_pts]
  constructor
  · rintro ⟨a, b⟩; exact ⟨by omega, by omega⟩
  · rintro ⟨a, b⟩; exact ⟨by omega, by omega⟩
theorem turn_names (n k : Nat) : Names (n + k) (turn n k) := by
  refine names_of (perm_of ?_ (asc_nodup (ascInt (pts_asc _))) fun x => ?_)
  · refine List.nodup_append.mpr ⟨asc_nodup (ascInt (shift_asc _ (pts_asc n))), asc_nodup (ascInt (pts_asc k)), fun a ha b hb e => ?_⟩
    have := mem_shift_pts.mp ha
    have := mem_pts.mp hb
    omega
  · unfold turn
    rw [List.mem_append, mem_shift_pts, mem_pts, mem_pts]
    omega
theorem pts_at {n i : Nat} (h : i < n) : (pts n)[i]? = some (i : Int) := by
  unfold pts
  rw [List.getElem?_map, List.getElem?_range h]; rfl
theorem turn_at {n k : Nat} {p : Int} (h0 : 0 ≤ p) (hp : p < (n + k : Nat)) : nameAt (turn n k) p = if p < n then p + k else p - n := by
  have hsl : (shift (pts n) (k : Int)).length = n := by rw [shift, List.length_map, pts_len]
  obtain ⟨i, rfl⟩ := Int.eq_ofNat_of_zero_le h0
  unfold nameAt turn
  rw [List.getD_eq_getElem?_getD, Int.toNat_natCast, List.getElem?_append, hsl]
  split
  · rename_i c
    rw [if_pos (by omega)]
    unfold shift
    rw [List.getElem?_map, pts_at c]; rfl
  · rename_i c
    rw [if_neg (by omega), pts_at (by omega)]
    show ((i - n : Nat) : Int) = _
    omega
theorem ren_turn {n k : Nat} {a b : Lot} (ha : IsLot (n : Int) a) (hb : IsLot (k : Int) b) : ren (turn n k) (cat n a b) = cat k b a := by
  refine asc_ext (ascInt (lot_ren (turn_names n k) (lot_cat ha hb)).asc) (ascInt (lot_cat hb ha).asc) fun x => ?_
  rw [mem_ren, List.mem_append, mem_shift]
  constructor
  · rintro ⟨p, hp, e⟩
    have hr := (lot_cat ha hb).rng p hp
    rw [turn_at hr.1 hr.2] at e
    rcases List.mem_append.mp hp with q | q
    · rw [if_pos (ha.rng p q).2] at e
      rw [← e]
      exact .inr (by rw [show p + (k : Int) - k = p by omega]; exact q)
    · have q := mem_shift.mp q
      have := hb.rng _ q
      rw [if_neg (by omega)] at e
      rw [← e]
      exact .inl q
  · rintro (q | q)
    · have := hb.rng x q
      refine ⟨x + n, List.mem_append_right _ (mem_shift.mpr (by rw [show x + (n : Int) - n = x by omega]; exact q)), ?_⟩
      rw [turn_at (by omega) (by omega), if_neg (by omega)]; omega
    · have := ha.rng _ q
      refine ⟨x - k, List.mem_append_left _ q, ?_⟩
      rw [turn_at (by omega) (by omega), if_pos (by omega)]; omega
theorem face_E (ts : List Lot) (l : Lot) : face ts l = (faceE ts l && !decide (l = [])) := by
  by_cases c : l = []
  · subst c; rfl
  · rw [faceE_ne c, decide_eq_false c]; simp
theorem join_turn {n k : Nat} {ts us : List Lot} (h : ∀ t ∈ ts, IsLot (n : Int) t) (g : ∀ t ∈ us, IsLot (k : Int) t) : renL (turn n k) (topsOf (joinL n ts us)) = topsOf (joinL k us ts) := by
  have hJ := tops_topsOf (join_lot h g)
  have hK := tops_topsOf (join_lot g h)
  rw [Nat.add_comm k n] at hK
  refine tops_ext (tops_ren (turn_names n k) hJ) hK fun l hl => ?_
  obtain ⟨m, hm, rfl⟩ := ren_surj (turn_names n k) hl
  rw [face_ren (turn_names n k) hJ.lot hm, face_E, face_E]
  have e := cat_lo_hi hm
  have h1 := lot_lo hm
  have h2 := lot_hi hm
  have hne : decide (ren (turn n k) m = []) = decide (m = []) := by
    rw [Bool.eq_iff_iff, decide_eq_true_eq, decide_eq_true_eq, ren_ne (turn_names n k)]
  rw [hne]
  have : faceE (topsOf (joinL n ts us)) m = faceE (topsOf (joinL k us ts)) (ren (turn n k) m) := by
    rw [← e, ren_turn h1 h2, join_face h g h1 h2, join_face g h h2 h1, Bool.and_comm]
  rw [this]

/-! tops of one size -/
theorem evenB_iff {ts : List Lot} : evenB ts = true ↔ ∀ t ∈ ts, ∀ u ∈ ts, t.length = u.length := by
  unfold evenB
  rw [List.all_eq_true]
  cases ts with
  | nil => exact ⟨fun _ t ht => (by cases ht), fun _ t ht => (by cases ht)⟩
  | cons a ts =>
    show (∀ x ∈ a :: ts, decide ((x.length : Int) = (a.length : Int)) = true) ↔ _
    constructor
    · intro q t ht u hu
      have h1 := of_decide_eq_true (q t ht)
      have h2 := of_decide_eq_true (q u hu)
      omega
    · intro q t ht
      exact decide_eq_true (by rw [q t ht a List.mem_cons_self])
theorem pad_ne {ts : List Lot} (h : ts ≠ []) : padT ts = ts := if_neg h
theorem join_even {n k : Nat} {ts us : List Lot} (h : Tops (n : Int) ts) (g : Tops (k : Int) us) (h0 : ts ≠ []) (g0 : us ≠ []) : evenB (topsOf (joinL n ts us)) = (evenB ts && evenB us) := by
  have key : ∀ t ∈ ts, ∀ u ∈ us, cat n t u ∈ topsOf (joinL n ts us) := by
    intro t ht u hu
    refine mem_topsOf.mpr ⟨mem_joinL.mpr ⟨t, by rw [pad_ne h0]; exact ht, u, by rw [pad_ne g0]; exact hu, rfl⟩, fun e => h.ne t ht (List.append_eq_nil_iff.mp e).1, fun o ho s => ?_⟩
    obtain ⟨t', ht', u', hu', rfl⟩ := mem_joinL.mp ho
    rw [pad_ne h0] at ht'
    rw [pad_ne g0] at hu'
    have s : sub (cat n t u) (cat n t' u') = true := s
    rw [sub_cat (h.lot t ht) (g.lot u hu) (h.lot t' ht') (g.lot u' hu'), Bool.and_eq_true] at s
    rw [h.anti t ht t' ht' s.1, g.anti u hu u' hu' s.2]
  have back : ∀ l ∈ topsOf (joinL n ts us), ∃ t ∈ ts, ∃ u ∈ us, l = cat n t u := by
    intro l hl
    obtain ⟨t, ht, u, hu, e⟩ := mem_joinL.mp (mem_topsOf.mp hl).1
    rw [pad_ne h0] at ht
    rw [pad_ne g0] at hu
    exact ⟨t, ht, u, hu, e⟩
  obtain ⟨t0, ht0⟩ := List.exists_mem_of_ne_nil ts h0
  obtain ⟨u0, hu0⟩ := List.exists_mem_of_ne_nil us g0
  rw [Bool.eq_iff_iff, Bool.and_eq_true, evenB_iff, evenB_iff, evenB_iff]
  constructor
  · intro q
    refine ⟨fun t ht t' ht' => ?_, fun u hu u' hu' => ?_⟩
    · have := q _ (key t ht u0 hu0) _ (key t' ht' u0 hu0)
      rw [cat_len, cat_len] at this; omega
    · have := q _ (key t0 ht0 u hu) _ (key t0 ht0 u' hu')
      rw [cat_len, cat_len] at this; omega
  · rintro ⟨q1, q2⟩ l hl l' hl'
    obtain ⟨t, ht, u, hu, rfl⟩ := back l hl
    obtain ⟨t', ht', u', hu', rfl⟩ := back l' hl'
    rw [cat_len, cat_len, q1 t ht t' ht', q2 u hu u' hu']

/-! how many tops -/
theorem topsOf_len (ls : List Lot) : (topsOf ls).length ≤ ls.length := nodup_le _ _ ((isort_perm (mx ls)).symm.nodup (mx_nodup ls)) fun x hx => (mem_topsOf.mp hx).1
theorem joinL_len (m : Int) (ts us : List Lot) : (joinL m ts us).length = (padT ts).length * (padT us).length := by
  unfold joinL
  have : ∀ (xs f : List Lot), (xs.foldl (fun f t => f ++ (padT us).map fun o => t ++ shift o m) f).length = f.length + xs.length * (padT us).length := by
    intro xs
    induction xs with
    | nil => intro f; simp
    | cons x xs ih => intro f; rw [List.foldl_cons, ih, List.length_append, List.length_map, List.length_cons, Nat.succ_mul]; omega
  rw [this, List.length_nil, Nat.zero_add]
theorem padT_le {ts : List Lot} {k : Nat} (h : ts.length ≤ k) (h1 : 1 ≤ k) : (padT ts).length ≤ k := by
  unfold padT
  split
  · exact h1
  · exact h
theorem join_len {m : Int} {ts us : List Lot} (h : ts.length ≤ 5) (g : us.length ≤ 2) : (topsOf (joinL m ts us)).length ≤ 10 := by
  have a := topsOf_len (joinL m ts us)
  rw [joinL_len] at a
  have := Nat.mul_le_mul (padT_le h (by omega)) (padT_le g (by omega))
  omega

/-! a whole lot and its shell -/
theorem shell_eq : ∀ n ∈ [2, 3, 4, 5], topsOf ((lots n).filter fun l => decide ((l.length : Int) = (n : Int) - 1)) = topsOf (skelL n [pts n] ((n : Int) - 2)) := by decide +kernel
theorem ball_euler : ∀ n ∈ [2, 3, 4, 5], euler (counts n [pts n]) = 1 := by decide +kernel
end K09
end

section
set_option Elab.async false
set_option linter.all false
set_option maxRecDepth 100000
set_option maxHeartbeats 2000000
namespace MM
open PySem DD
open Dat (enc)
/-- a loop that goes on by a state, the turn known -/
theorem forX_ix {α σ : Type} {t : Tg} {b : Sx} {f : α → Da} {st : Nat → σ → DEnv → Prop} {al : List α} (k : ∀ i s ρ x, al[i]? = some x → st i s ρ → ∃ ρ1 ρ2 s', bindT t (f x) ρ = some ρ1 ∧ b ρ1 = some (.fl (.nx ρ2)) ∧ st (i + 1) s' ρ2) : ∀ (xs : List α) (i : Nat) (s : σ) (ρ : DEnv), al.drop i = xs → st i s ρ → ∃ ρ' s', forX t b (xs.map f) ρ = some (.fl (.nx ρ')) ∧ st (i + xs.length) s' ρ'
  | [], i, s, ρ, hN, h => ⟨ρ, s, rfl, h⟩
  | x :: xs, i, s, ρ, hN, h => by
    have hx : al[i]? = some x := by
      rw [← List.head?_drop, hN]; rfl
    have ht : al.drop (i + 1) = xs := by
      rw [← List.tail_drop, hN]; rfl
    obtain ⟨ρ1, ρ2, s', h1, h2, h3⟩ := k i s ρ x hx h
    obtain ⟨ρ', s'', h4, h5⟩ := forX_ix k xs (i + 1) s' ρ2 ht h3
    refine ⟨ρ', s'', ?_, by rw [List.length_cons, show i + (xs.length + 1) = i + 1 + xs.length by omega]; exact h5⟩
    rw [List.map_cons, forX, h1]
    show (match b ρ1 with
      | some (.fl (.nx ρ2)) => forX t b (xs.map f) ρ2
      | some (.fl (.ct ρ2)) => forX t b (xs.map f) ρ2
      | some (.fl (.bk ρ2)) => some (.fl (.nx ρ2))
      | r => r) = _
    rw [h2]; exact h4
theorem s_forI {α σ : Type} {it : Xf (List Da)} {t : Tg} {b sg : Sx} {ρ ρ1 : DEnv} {f : α → Da} {xs : List α} (st : Nat → σ → DEnv → Prop) (s0 : σ) {R : Option Fx → Prop} (hit : it ρ = some (.ok (xs.map f) ρ1)) (h0 : st 0 s0 ρ1)
    (k : ∀ i s ρ x, xs[i]? = some x → st i s ρ → ∃ ρ1 ρ2 s', bindT t (f x) ρ = some ρ1 ∧ b ρ1 = some (.fl (.nx ρ2)) ∧ st (i + 1) s' ρ2)
    (h : ∀ ρ' s', st xs.length s' ρ' → R (sg ρ')) : R (sx_seq (sx_for it t b) sg ρ) := by
  obtain ⟨ρ', s', h1, h2⟩ := forX_ix (al := xs) k xs 0 s0 ρ1 rfl h0
  rw [Nat.zero_add] at h2
  have e : sx_seq (sx_for it t b) sg ρ = sg ρ' := by
    unfold sx_seq sx_for sx_with
    rw [hit]
    show (match forX t b (xs.map f) ρ1 with
      | some (.fl (.nx ρ')) => sg ρ'
      | r => r) = _
    rw [h1]
  rw [e]
  exact h ρ' s' h2
end MM
namespace K09
open PySem DD MM
open Dat (enc)
theorem ev_is_complex {n : Nat} {ts : List Lot} (h : OkB n ts) : o_is_complex [enc (bd n ts)] = some (enc true) := by
  unfold o_is_complex sf_is_complex
  exact v_run rfl (v_ret (v_call (v_cons (v_var rfl) v_nil) (ev_is_complex_by h)))
theorem ne_same {α : Type} [DecidableEq α] [Dat α] (a b : α) (e : a = b) (h : Dat.dep α ≤ 64 := by decide) : o_ne (enc a) (enc b) = some (enc false) := by
  rw [ev_ne a b h, e]; simp
theorem eq_same {α : Type} [DecidableEq α] [Dat α] (a b : α) (e : a = b) (h : Dat.dep α ≤ 64 := by decide) : o_eq (enc a) (enc b) = some (enc true) := by
  rw [ev_eq a b h, e]; simp
theorem v_torF {t u : Tf} {ρ : DEnv} (h : t ρ = some false) (h2 : u ρ = some false) : t_or t u ρ = some false := v_tor h fun _ => h2
theorem v_neF {α : Type} [DecidableEq α] [Dat α] {ρ : DEnv} {f g : Ef} {a b : α} (h : f ρ = some (enc a)) (h2 : g ρ = some (enc b)) (e : a = b) (hd : Dat.dep α ≤ 64 := by decide) : t_bool (e_bin o_ne f g) ρ = some false := v_tbool (v_bin h h2 (ne_same a b e hd))
theorem miss_lots {n : Nat} {ts : List Lot} : ∀ l ∈ miss n ts, IsLot (n : Int) l := fun l hl => (miss_lot hl).1
theorem v_tupB {n : Nat} {ts : List Lot} {ρ : DEnv} {i : Nat} {l : Ef} (h : ρ[i]? = some (.im (enc (n : Int)))) (h2 : l ρ = some (enc ts)) : e_tup (l_cons (e_c (.str "complex")) (l_cons (e_var i) (l_cons l (l_nil)))) ρ = some (enc (bd n ts)) := v_tup (v_cons rfl (v_cons (v_var h) (v_cons h2 v_nil)))

theorem okB_skel {n : Nat} {ts : List Lot} (h1 : 1 ≤ n) (h5 : n ≤ 5) (d : Int) : OkB n (topsOf (skelL n ts d)) := okB_of h1 h5 skel_lot
theorem union_skel {n : Nat} {ts es : List Lot} (he : ∀ t ∈ es, IsLot (n : Int) t) (d : Int) (h : ∀ l, IsLot (n : Int) l → face es l = true → face ts l = true ∧ (l.length : Int) ≤ d + 1) : topsOf (es ++ topsOf (skelL n ts d)) = topsOf (skelL n ts d) := by
  have hS := tops_topsOf (skel_lot (n := n) (ts := ts) (d := d))
  have hl : ∀ l ∈ es ++ topsOf (skelL n ts d), IsLot (n : Int) l := fun l hl => (List.mem_append.mp hl).elim (he l) (hS.lot l)
  refine tops_ext (tops_topsOf hl) hS fun l hL => ?_
  rw [face_topsOf hl, Bool.eq_iff_iff]
  constructor
  · intro q
    obtain ⟨a, t, ht, s⟩ := face_iff.mp q
    rcases List.mem_append.mp ht with r | r
    · obtain ⟨x, y⟩ := h l hL (face_iff.mpr ⟨a, t, r, s⟩)
      rw [skel_face d hL, x, Bool.true_and, Bool.not_eq_true', decide_eq_false_iff_not]
      omega
    · exact face_iff.mpr ⟨a, t, r, s⟩
  · intro q
    obtain ⟨a, t, ht, s⟩ := face_iff.mp q
    exact face_iff.mpr ⟨a, t, List.mem_append_right _ ht, s⟩
theorem meet_skel {n : Nat} {ts : List Lot} (d : Int) : topsOf (meetL n (topsOf (skelL n ts d)) ts) = topsOf (skelL n ts d) := by
  have hS := tops_topsOf (skel_lot (n := n) (ts := ts) (d := d))
  have : meetL n (topsOf (skelL n ts d)) ts = facesOf n (topsOf (skelL n ts d)) := by
    unfold meetL
    refine List.filter_eq_self.mpr fun l hl => ?_
    obtain ⟨a, b⟩ := mem_facesOf.mp hl
    rw [skel_face d a, Bool.and_eq_true] at b
    exact b.1
  rw [this, tops_faces hS]
theorem v_tandF {t u : Tf} {b : Bool} {ρ : DEnv} (h : t ρ = some b) (h2 : u ρ = some false) : t_and t u ρ = some false := by
  rw [v_tand h fun _ => h2, Bool.and_false]
theorem pt_lot : ∀ t ∈ [[(0 : Int)]], IsLot ((1 : Nat) : Int) t := fun t ht => by
  rw [List.mem_singleton.mp ht]
  exact ⟨by decide, fun x hx => by rw [List.mem_singleton.mp hx]; decide⟩
theorem two_lot : ∀ t ∈ [[(0 : Int)], [1]], IsLot ((2 : Nat) : Int) t := fun t ht => by
  rcases List.mem_cons.mp ht with e | e
  · rw [e]; exact ⟨by decide, fun x hx => by rw [List.mem_singleton.mp hx]; decide⟩
  · rw [List.mem_singleton.mp e]; exact ⟨by decide, fun x hx => by rw [List.mem_singleton.mp hx]; decide⟩
theorem okB_join {n k : Nat} {ts us : List Lot} (h1 : 1 ≤ n + k) (h7 : n + k ≤ 7) (h : ∀ t ∈ ts, IsLot (n : Int) t) (g : ∀ t ∈ us, IsLot (k : Int) t) (hl : ts.length ≤ 5) (gl : us.length ≤ 2) : OkB (n + k) (topsOf (joinL n ts us)) where
  n1 := h1
  n7 := h7
  len := Nat.le_trans (join_len hl gl) (by decide)
  tops := tops_topsOf (join_lot h g)
/-- the check of a drawn complex -/
theorem ev_body_right {B n : Nat} {g : List Da} {ls : List Lot} (hg : Gn B g) (hB : B + 2 ^ 30 < 2 ^ 50) (h1 : 1 ≤ n) (h5 : n ≤ 5) (hl5 : ls.length ≤ 5) (hlot : ∀ l ∈ ls, IsLot (n : Int) l) : ∃ g', o__law_body_right g [enc (bd n (topsOf ls))] = some (.ok (enc true), g') ∧ Gn (B + 5) g' := by
  have H := okB_of h1 h5 hlot
  have hlen : (topsOf ls).length ≤ 5 := Nat.le_trans (topsOf_len ls) hl5
  generalize topsOf ls = ts at H hlen
  have T := H.tops
  have hF := facesOf_len ts (n := n) (by omega)
  have small : ∀ us : List Lot, Tops (n : Int) us → us.length ≤ 20 := fun us h => by have := tops_len5 h h5; omega
  unfold o__law_body_right sf__law_body_right
  suffices h : ∃ (g' : List Da) (e : List Ent), sx_seq _ _ (startG 9 g [enc (bd n ts)]) = some (.fl (.rt (enc true) (.gn g' :: e))) ∧ Gn (B + 5) g' by
    obtain ⟨g', e, q1, q2⟩ := h
    exact ⟨g', runGE rfl q1 rfl, q2⟩
  rw [s_seqE (ρ := startG 9 g [enc (bd n ts)]) (s_parE (is := [2, 3]) (ps := [.im (enc (n : Int)), .im (enc (facesOf n ts))]) (xp_imE (x_ofE (v_bin (v_var rfl) (v_cI 1) (w_ixm _))) (xp_imE (x_ofE (v_call (v_cons (v_var rfl) v_nil) (ev_all_faces H))) (show xp_nil _ = _ from rfl) rfl) rfl) rfl) rfl]
  rw [s_seqE (s_ofE (v_ifF (b := false) (v_torF (v_neF (v_call (v_cons (v_var rfl) (v_cons (v_bin (v_var rfl) (v_cI 2) (w_ixt _)) v_nil)) (ev_complex_with h1 (by omega) T.lot (by show ts.length ≤ _; omega) (by rw [topsOf_tops T]; omega))) (v_var rfl) (by rw [topsOf_tops T])) (v_torF (v_neF (v_call (v_cons (v_var rfl) (v_cons (v_var rfl) v_nil)) (ev_complex_with h1 (by omega) facesOf_lot (by omega) (by rw [tops_faces T]; omega))) (v_var rfl) (by rw [tops_faces T])) (v_torF (v_neF (v_call (v_cons (v_var rfl) (v_cons (v_call (v_cons (v_var rfl) v_nil) (ev_least_missing H)) v_nil)) (ev_complex_barring h1 (by omega) miss_lots (fun q => (miss_lot q).2.1 rfl) (by have := miss_len (n := n) ts (by omega); omega) (by rw [bar_miss T]; omega))) (v_var rfl) (by rw [bar_miss T])) (v_tnot (v_tvalB (v_call (v_cons (v_var rfl) v_nil) (ev_is_complex H))))))) rfl v_snil)) rfl]
  have hface : ∀ l ∈ facesOf n ts, (!(lotB (n : Int) l && face ts l)) = false := fun l hl => by
    obtain ⟨a, b⟩ := mem_facesOf.mp hl
    rw [lotB_iff.mpr a, b]; rfl
  rw [s_seqE (s_ofE (v_ifF (b := false) (v_torF (v_neF (v_call (v_cons (v_call (v_cons (v_var rfl) v_nil) (ev_face_counts H)) v_nil) (w_sum _)) (v_call (v_cons (v_var rfl) v_nil) (w_len _)) (counts_sum T (by omega))) (v_neF (a := (facesOf n ts).filter fun l => !(lotB (n : Int) l && face ts l)) (b := ([] : List Lot)) (v_new (v_lcF (v_items (v_var rfl)) fun x hx => ⟨_, rfl, v_tnot (v_tvalB (v_call (v_cons (v_var rfl) (v_cons (v_var rfl) v_nil)) (ev_is_face H (by have := (facesOf_lot x hx).len'; omega)))), v_var rfl⟩)) (v_lst v_nil (by decide)) (List.filter_eq_nil_iff.mpr fun l hl => by rw [hface l hl]; decide))) rfl v_snil)) rfl]
  rw [s_seqE (s_ofE (v_asg (i := 4) (v_tupB (n := n) (ts := []) rfl (v_lst v_nil (by decide))))) rfl]
  refine s_forI (f := fun i : Nat => enc ((0 : Int) + (i : Nat))) (xs := List.range 3) (ρ1 := [.gn g, .im (enc (bd n ts)), .im (enc (n : Int)), .im (enc (facesOf n ts)), .im (enc (bd n [])), .no, .no, .no, .no]) (R := fun r => ∃ (g' : List Da) (e : List Ent), r = some (.fl (.rt (enc true) (.gn g' :: e))) ∧ Gn (B + 5) g')
    (fun i (E : List Lot) ρ => OkB n E ∧ (∀ l, IsLot (n : Int) l → face E l = true → face ts l = true ∧ (l.length : Int) ≤ i) ∧ ∃ e5 e6, ρ = [.gn g, .im (enc (bd n ts)), .im (enc (n : Int)), .im (enc (facesOf n ts)), .im (enc (bd n E)), e5, e6, .no, .no]) [] (x_ofE (v_range1 (b := 3) rfl (by decide) (by decide))) ⟨⟨h1, by omega, by decide, ⟨fun _ h => (by cases h), fun _ h => (by cases h), List.Pairwise.nil, fun _ h => (by cases h)⟩⟩, fun l _ h => (by cases l <;> cases h), _, _, rfl⟩ ?_ ?_
  · rintro i E ρ x hx ⟨hE, hE2, e5, e6, rfl⟩
    obtain ⟨hi, rfl⟩ : i < 3 ∧ i = x := by
      rcases Nat.lt_or_ge i 3 with q | q
      · rw [List.getElem?_range q] at hx
        exact ⟨q, Option.some.inj hx⟩
      · rw [List.getElem?_eq_none (by rw [List.length_range]; exact q)] at hx; cases hx
    have hd : (0 : Int) + (i : Nat) = (i : Int) := by omega
    have hS := okB_skel (ts := ts) h1 h5 (i : Int)
    have hU := union_skel hE.tops.lot (i : Int) fun l a b => by have := hE2 l a b; exact ⟨this.1, by omega⟩
    have hM := meet_skel (n := n) (ts := ts) (i : Int)
    have hsk : o_skeleton [enc (bd n ts), enc (i : Int)] = some (enc (bd n (topsOf (skelL n ts (i : Int))))) := ev_skeleton H (i : Int) (by omega) (by omega) (small _ (tops_topsOf skel_lot))
    refine ⟨_, [.gn g, .im (enc (bd n ts)), .im (enc (n : Int)), .im (enc (facesOf n ts)), .im (enc (bd n (topsOf (skelL n ts (i : Int))))), .im (enc ((0 : Int) + (i : Nat))), .im (enc (bd n (topsOf (skelL n ts (i : Int))))), .no, .no], topsOf (skelL n ts (i : Int)), rfl, ?_, hS, fun l a b => ?_, _, _, rfl⟩
    · rw [hd]
      refine s_ofE (v_seq (v_asg (i := 6) (v_call (v_cons (v_var rfl) (v_cons (v_var rfl) v_nil)) hsk)) (v_seq (v_ifF (b := false) (v_torF (v_neF (v_call (v_cons (v_var rfl) (v_cons (v_var rfl) v_nil)) (ev_union hE hS (by rw [hU]; exact hS.len))) (v_var rfl) (by rw [hU])) (v_torF (v_neF (v_call (v_cons (v_var rfl) (v_cons (v_var rfl) v_nil)) (ev_meet hS H (by rw [hM]; exact hS.len))) (v_var rfl) (by rw [hM])) (v_neF (v_call (v_cons (v_var rfl) v_nil) (ev_face_counts hS)) (v_cut (v_call (v_cons (v_var rfl) v_nil) (ev_face_counts H)) v_pno (v_pat (v_bin (v_var rfl) (v_cI 1) (w_addI _ _))) (w_cut _ _ _)) ?_))) rfl v_snil) (v_asg (i := 4) (v_var rfl))))
      rw [skel_counts T (by omega)]
      exact (cut_to _ (i + 1)).symm
    · rw [skel_face _ a, Bool.and_eq_true, Bool.not_eq_true', decide_eq_false_iff_not] at b
      exact ⟨b.1, by omega⟩
  · rintro ρ' E ⟨hE, hE2, e5, e6, rfl⟩
    have hC := okB_join (n := n) (k := 1) (us := [[0]]) (by omega) (by omega) T.lot pt_lot hlen (by decide)
    have hH := okB_join (n := n) (k := 2) (us := [[0], [1]]) (by omega) (by omega) T.lot two_lot hlen (by decide)
    have hcone := ev_cone H (by omega) hC.len
    have hhung := ev_hung H (by omega) hH.len
    have c1 : euler (counts (n + 1) (topsOf (joinL n ts [[0]]))) = 1 := by
      rw [euler_E hC.tops hC.n7, join_chi T.lot pt_lot, chi_pt]; omega
    have c2 : euler (counts (n + 2) (topsOf (joinL n ts [[0], [1]]))) = 2 - euler (counts n ts) := by
      rw [euler_E hH.tops hH.n7, join_chi T.lot two_lot, chi_two, euler_E T (by omega)]; omega
    have c3 : ((miss (n + 1) (topsOf (joinL n ts [[0]]))).length : Int) = ((miss n ts).length : Int) := by
      rw [join_miss_len T.lot pt_lot, miss_pt]; rfl
    rw [s_seqE (s_ofE (v_ifF (b := false) (v_torF (v_neF (v_call (v_cons (v_call (v_cons (v_var rfl) v_nil) hcone) v_nil) (ev_euler_number hC)) (v_cI 1) c1) (v_torF (v_tandF (v_tbool (v_bin (v_var rfl) (v_cI 6) (ev_lt (α := Int) _ _))) (v_neF (v_call (v_cons (v_call (v_cons (v_var rfl) v_nil) hhung) v_nil) (ev_euler_number hH)) (v_bin (v_cI 2) (v_call (v_cons (v_var rfl) v_nil) (ev_euler_number H)) (w_subI _ _)) c2)) (v_neF (v_call (v_cons (v_call (v_cons (v_call (v_cons (v_var rfl) v_nil) hcone) v_nil) (ev_least_missing hC)) v_nil) (w_len _)) (v_call (v_cons (v_call (v_cons (v_var rfl) v_nil) (ev_least_missing H)) v_nil) (w_len _)) c3))) rfl v_snil)) rfl]
    obtain ⟨ys, g', o1, o2, o3⟩ := ev_order hg (pts n) (by rw [pts_len]; omega) (by omega)
    rw [pts_len] at o3
    have N := names_of o2
    rw [s_seqE (s_asgE (i := 7) (x_callGE (i := 0) (n := 1) (en := .gn g) (e1 := .gn g) (gs0 := g) (gs := g) rfl rfl (x_ofE (v_cons (v_new (v_listRg (n := n) (v_var rfl) (by omega))) v_nil)) rfl rfl rfl o1)) rfl]
    have hr := ev_renamed H N.srt
    have hR := okB_ren N H
    exact ⟨g', _, s_ofE (v_ret ((v_and (v_bin (v_call (v_cons (v_call (v_cons (v_var rfl) (v_cons (v_var rfl) v_nil)) hr) v_nil) (ev_face_counts hR)) (v_call (v_cons (v_var rfl) v_nil) (ev_face_counts H)) (eq_same _ _ (counts_ren N T (by omega)))) fun _ => v_bin (v_call (v_cons (v_call (v_cons (v_var rfl) (v_cons (v_var rfl) v_nil)) hr) v_nil) (ev_is_flag hR)) (v_call (v_cons (v_var rfl) v_nil) (ev_is_flag H)) (eq_same _ _ (flag_ren N T))).trans rfl)), o3.mono (by omega)⟩
end K09
end

section
set_option Elab.async false
set_option linter.all false
set_option maxRecDepth 100000
set_option maxHeartbeats 2000000
namespace K09
open PySem DD MM
open Dat (enc)

theorem cut4 {α : Type} [DecidableEq α] [Dat α] (xs : List α) : o_cut (enc xs) none (some 4) = some (enc (xs.take 4)) := by
  rw [w_cut]
  exact congrArg (fun z => some (enc z)) (cut_to xs 4)
/-- the check of faces -/
theorem ev_faces_right {B n : Nat} {g : List Da} {ts : List Lot} (hg : Gn B g) (hB : B + 2 ^ 30 < 2 ^ 50) (h5 : n ≤ 5) (H : OkB n ts) : ∃ g', o__law_faces_right g [enc (bd n ts)] = some (.ok (enc true), g') ∧ Gn (B + 200) g' := by
  have T := H.tops
  have h1 := H.n1
  have hF := facesOf_len ts (n := n) (by omega)
  obtain ⟨ys, g', o1, o2, o3⟩ := ev_order hg (facesOf n ts) (by omega) (by omega)
  unfold o__law_faces_right sf__law_faces_right
  suffices h : ∃ (g' : List Da) (e : List Ent), sx_seq _ _ (startG 5 g [enc (bd n ts)]) = some (.fl (.rt (enc true) (.gn g' :: e))) ∧ Gn (B + 200) g' by
    obtain ⟨g', e, q1, q2⟩ := h
    exact ⟨g', runGE rfl q1 rfl, q2⟩
  refine s_forE (f := enc) (xs := ys.take 4) (ρ1 := [.gn g', .im (enc (bd n ts)), .no, .no, .no]) (R := fun r => ∃ (g' : List Da) (e : List Ent), r = some (.fl (.rt (enc true) (.gn g' :: e))) ∧ Gn (B + 200) g')
    (fun i (s : Unit) ρ => ∃ e2 e3 e4, ρ = [.gn g', .im (enc (bd n ts)), e2, e3, e4]) () ?_ ⟨_, _, _, rfl⟩ ?_ ?_
  · exact bindE (x_cutE (x_callGE (i := 0) (n := 1) (en := .gn g) (e1 := .gn g) (gs0 := g) (gs := g) rfl rfl (x_ofE (v_cons (v_call (v_cons (v_var rfl) v_nil) (ev_all_faces H)) v_nil)) rfl rfl rfl o1) retE (xp_atE (x_ofE (v_cI 4))) (cut4 ys)) rfl
  · rintro i s ρ f hi hf ⟨e2, e3, e4, rfl⟩
    have hf : f ∈ facesOf n ts := o2.mem_iff.mp (List.mem_of_mem_take hf)
    have f1 := facesOf_lot f hf
    have hL := okB_of h1 h5 (link_lot T.lot f)
    obtain ⟨s1, s2⟩ := star_eq T hf
    have hs : ∀ l ∈ starL ts f, IsLot (n : Int) l := fun l hl => T.lot l (List.mem_filter.mp hl).1
    have hS := okB_of h1 h5 hs
    have hW := okB_of h1 h5 (without_lot (n := n) (ts := ts) (f := f))
    have hz : (((topsOf (linkL ts f)).map fun t => both t f) ++ [f]).length ≤ 1000000 := by
      rw [List.length_append, List.length_map]
      have := hL.len
      show _ + 1 ≤ _
      omega
    have hcw := ev_complex_with h1 (by omega) s2 hz (by rw [s1]; exact hS.len)
    rw [s1] at hcw
    have hc := link_count T hf
    refine ⟨_, [.gn g', .im (enc (bd n ts)), .im (enc f), .im (enc (bd n (topsOf (linkL ts f)))), e4], (), rfl, ?_, _, _, _, rfl⟩
    refine s_ofE (v_seq (v_asg (i := 3) (v_call (v_cons (v_var rfl) (v_cons (v_var rfl) v_nil)) (ev_link H hf))) (v_seq (v_ifF (b := false) (v_neF (v_call (v_cons (v_bin (v_var rfl) (v_cI 1) (w_ixm _)) (v_cons (v_bin (v_new (v_lcM (f' := enc) (g := fun t : Lot => both t f) (v_items (v_bin (v_var rfl) (v_cI 2) (w_ixt _))) fun t ht => ⟨_, rfl, v_new (v_lcall (v_cons (v_bin (v_var rfl) (v_var rfl) (w_add t f ?_)) v_nil) (ev_sorted _))⟩)) (v_lst (v_cons (v_var rfl) v_nil) one_le) (w_add _ [f] ?_)) v_nil)) hcw) (v_call (v_cons (v_var rfl) (v_cons (v_var rfl) v_nil)) (ev_star H hf)) rfl) rfl v_snil) (v_ifF (b := false) (v_neF (v_bin (v_bin (v_call (v_cons (v_call (v_cons (v_call (v_cons (v_var rfl) (v_cons (v_var rfl) v_nil)) (ev_without H hf hW.len)) v_nil) (ev_all_faces hW)) v_nil) (w_len _)) (v_call (v_cons (v_call (v_cons (v_var rfl) v_nil) (ev_all_faces hL)) v_nil) (w_len _)) (w_addI _ _)) (v_cI 1) (w_addI _ _)) (v_call (v_cons (v_call (v_cons (v_var rfl) v_nil) (ev_all_faces H)) v_nil) (w_len _)) ?_) rfl v_snil)))
    · have := (hL.tops.lot t ht).len'
      have := f1.len'
      omega
    · rw [List.length_map]
      have := hL.len
      show (topsOf (linkL ts f)).length + 1 ≤ _
      omega
    · omega
  · rintro ρ' s ⟨e2, e3, e4, rfl⟩
    exact ⟨g', _, s_ofE (v_ret rfl), o3.mono (by omega)⟩

theorem join_len' {m : Int} {ts us : List Lot} (h : ts.length ≤ 2) (g : us.length ≤ 5) : (topsOf (joinL m ts us)).length ≤ 10 := by
  have a := topsOf_len (joinL m ts us)
  rw [joinL_len] at a
  have := Nat.mul_le_mul (padT_le h (by omega)) (padT_le g (by omega))
  omega
/-- the check of two complexes -/
theorem ev_two_right {n k : Nat} {ts us : List Lot} (H : OkB n ts) (G : OkB k us) (h5 : n ≤ 5) (k2 : k ≤ 2) (hl : ts.length ≤ 5) (gl : us.length ≤ 2) : o__law_two_right [enc (bd n ts), enc (bd k us)] = some (enc true) := by
  have T := H.tops
  have U := G.tops
  have h1 := H.n1
  have hJ := okB_join (n := n) (k := k) (by omega) (by omega) T.lot U.lot hl gl
  have hK : OkB (k + n) (topsOf (joinL k us ts)) := ⟨by omega, by omega, Nat.le_trans (join_len' gl hl) (by decide), tops_topsOf (join_lot U.lot T.lot)⟩
  have e1 := ev_join H G (by omega) hJ.len
  have e2 := ev_join G H (by omega) hK.len
  have er := ev_renamed hJ (turn_names n k).srt
  have hb : bd (n + k) (renL (turn n k) (topsOf (joinL n ts us))) = bd (k + n) (topsOf (joinL k us ts)) := by
    rw [join_turn T.lot U.lot, Nat.add_comm]
  have hF := facesOf_len ts (n := n) (by omega)
  have hc := join_count T.lot U.lot
  have names : (List.range n).map (fun i : Nat => ((0 : Int) + (i : Nat)) + (k : Int)) ++ pts k = turn n k := by
    unfold turn shift pts
    rw [List.map_map]
    congr 1
    refine List.map_congr_left fun i _ => ?_
    show _ = (i : Int) + k
    omega
  unfold o__law_two_right sf__law_two_right
  suffices h : ∃ ρ', s_seq _ _ (startE 6 [enc (bd n ts), enc (bd k us)]) = some (.rt (enc true) ρ') by
    obtain ⟨ρ', h⟩ := h
    exact v_run rfl h
  rw [v_seq (ρ := startE 6 [enc (bd n ts), enc (bd k us)]) (v_par_ii (i := 2) (j := 3) (v_call (v_cons (v_var rfl) (v_cons (v_var rfl) v_nil)) e1) (v_call (v_cons (v_var rfl) (v_cons (v_var rfl) v_nil)) e2)) rfl]
  rw [v_seq (v_asg (i := 4) (d := enc (turn n k)) ?_) rfl]
  rotate_left
  · rw [← names]
    exact v_bin (v_new (v_lcM (f := fun i : Nat => enc ((0 : Int) + (i : Nat))) (f' := enc) (g := fun i : Nat => ((0 : Int) + (i : Nat)) + (k : Int)) (v_range1 (b := (n : Int)) (v_cons (v_bin (v_var rfl) (v_cI 1) (w_ixm _)) v_nil) (by omega) (by omega)) fun i hi => ⟨_, rfl, v_bin (v_var rfl) (v_bin (v_var rfl) (v_cI 1) (w_ixm _)) (w_addI _ _)⟩)) (v_new (v_listRg (n := k) (v_bin (v_var rfl) (v_cI 1) (w_ixm _)) (by omega))) (w_add _ _ (by rw [List.length_map, List.length_range, pts_len, Int.toNat_natCast]; omega))
  have big : ((facesOf n ts).length : Int) + 1 < 2 ^ 64 := by omega
  rw [v_seq (v_ifF (b := false) (v_torF (v_neF (v_call (v_cons (v_var rfl) (v_cons (v_var rfl) v_nil)) er) (v_var rfl) hb) (v_neF (v_bin (v_call (v_cons (v_call (v_cons (v_var rfl) v_nil) (ev_all_faces hJ)) v_nil) (w_len _)) (v_cI 1) (w_addI _ _)) (v_bin (v_bin (v_call (v_cons (v_call (v_cons (v_var rfl) v_nil) (ev_all_faces H)) v_nil) (w_len _)) (v_cI 1) (w_addI _ _)) (v_bin (v_call (v_cons (v_call (v_cons (v_var rfl) v_nil) (ev_all_faces G)) v_nil) (w_len _)) (v_cI 1) (w_addI _ _)) (w_mult _ _ (.inl ⟨by omega, big⟩))) (by
    have := congrArg (fun z : Nat => (z : Int)) hc
    simp only [Int.natCast_add, Int.natCast_mul] at this
    exact this))) rfl v_snil) rfl]
  rw [v_seq (v_ifF (b := false) (v_neF (v_call (v_cons (v_var rfl) v_nil) (ev_is_flag hJ)) (v_and (v_call (v_cons (v_var rfl) v_nil) (ev_is_flag H)) fun _ => v_call (v_cons (v_var rfl) v_nil) (ev_is_flag G)) (join_flag T.lot U.lot)) rfl v_snil) rfl]
  refine ⟨_, v_ret ((v_or (v_bin (v_bin (v_var rfl) (v_cI 2) (w_ixt _)) (v_lst v_nil (by decide)) (ev_eq _ ([] : List Lot))) fun a => v_or (v_bin (v_bin (v_var rfl) (v_cI 2) (w_ixt _)) (v_lst v_nil (by decide)) (ev_eq _ ([] : List Lot))) fun b => v_bin (v_call (v_cons (v_var rfl) v_nil) (ev_is_even_topped hJ)) (v_and (v_call (v_cons (v_var rfl) v_nil) (ev_is_even_topped H)) fun _ => v_call (v_cons (v_var rfl) v_nil) (ev_is_even_topped G)) (ev_eq _ _)).trans ?_)⟩
  show some (enc (decide (ts = []) || (decide (us = []) || decide (evenB (topsOf (joinL n ts us)) = (evenB ts && evenB us))))) = some (enc true)
  by_cases a : ts = []
  · rw [decide_eq_true a]; rfl
  · by_cases b : us = []
    · rw [decide_eq_true b, Bool.true_or, Bool.or_true]
    · rw [join_even T U a b, decide_eq_true rfl, Bool.or_true, Bool.or_true]
end K09
end

section
set_option Elab.async false
set_option linter.all false
set_option maxRecDepth 100000
set_option maxHeartbeats 2000000
namespace K09
open PySem DD MM
open Dat (enc)

theorem tops_few {k : Nat} {us : List Lot} (U : Tops (k : Int) us) (h1 : 1 ≤ k) (h2 : k ≤ 2) : us.length ≤ 2 := by
  obtain ⟨j, rfl⟩ : ∃ j, k = j + 1 := ⟨k - 1, by omega⟩
  have := tops_len U
  have : 2 ^ j ≤ 2 ^ 1 := Nat.pow_le_pow_right (by decide) (by omega)
  omega
theorem ev_law_right {B : Nat} {g : List Da} (hg : Gn B g) (hB : B + 2 ^ 40 < 2 ^ 50) : ∃ g', o__law_right g [] = some (.ok (enc true), g') ∧ Gn (B + 1000) g' := by
  obtain ⟨n, ls, g1, b1, n1, n5, l5, lot, G1⟩ := ev_body hg (by omega) 5 (by decide) (by decide)
  obtain ⟨k, ks, g2, b2, k1, k2, _, kot, G2⟩ := ev_body G1 (by omega) 2 (by decide) (by decide)
  have H := okB_of n1 n5 lot
  have K := okB_of k1 (by omega) kot
  obtain ⟨g3, r3, G3⟩ := ev_body_right G2 (by omega) n1 n5 l5 lot
  obtain ⟨g4, r4, G4⟩ := ev_faces_right G3 (by omega) n5 H
  have r5 := ev_two_right H K n5 k2 (Nat.le_trans (topsOf_len ls) l5) (tops_few K.tops k1 k2)
  obtain ⟨v, g5, r6, v0, v4, G5⟩ := rand G4 (by omega) 4 (by omega) (by omega)
  obtain ⟨w, rfl⟩ := Int.eq_ofNat_of_zero_le v0
  have hm : w + 2 ∈ [2, 3, 4, 5] := by
    have : w < 4 := by omega
    simp only [List.mem_cons, List.not_mem_nil, or_false]
    omega
  have m1 : 1 ≤ w + 2 := by omega
  have m7 : w + 2 ≤ 7 := by omega
  have hne : pts (w + 2) ≠ [] := fun e => by
    have := pts_len (w + 2)
    rw [e] at this
    exact absurd this (by show ¬ 0 = w + 2; omega)
  have hB : OkB (w + 2) [pts (w + 2)] := ⟨m1, m7, by show 1 ≤ 20; decide, ⟨fun t ht => by rw [List.mem_singleton.mp ht]; exact pts_lot _, fun t ht => by rw [List.mem_singleton.mp ht]; exact hne, List.pairwise_singleton _ _, fun t ht u hu _ => by rw [List.mem_singleton.mp ht, List.mem_singleton.mp hu]⟩⟩
  have hsk : (topsOf (skelL (w + 2) [pts (w + 2)] (((w + 2 : Nat) : Int) - 2))).length ≤ 20 := by
    have := tops_len5 (tops_topsOf (skel_lot (n := w + 2) (ts := [pts (w + 2)]) (d := ((w + 2 : Nat) : Int) - 2))) (by omega)
    omega
  have e2 : (2 : Int) + (w : Nat) = ((w + 2 : Nat) : Int) := by omega
  unfold o__law_right sf__law_right
  suffices h : ∃ (g' : List Da) (e : List Ent), sx_seq _ _ (startG 4 g []) = some (.fl (.rt (enc true) (.gn g' :: e))) ∧ Gn (B + 1000) g' by
    obtain ⟨g', e, q1, q2⟩ := h
    exact ⟨g', runGE rfl q1 rfl, q2⟩
  rw [s_seqE (ρ := startG 4 g []) (s_parE (is := [1, 2]) (ps := [.im (enc (bd n (topsOf ls))), .im (enc (bd k (topsOf ks)))]) (xp_imE (x_callGE (i := 0) (n := 1) (en := .gn g) (e1 := .gn g) (gs0 := g) (gs := g) rfl rfl (x_ofE (v_cons (v_cI 5) v_nil)) rfl rfl rfl b1) (xp_imE (x_callGE (i := 0) (n := 1) (en := .gn g1) (e1 := .gn g1) (gs0 := g1) (gs := g1) rfl rfl (x_ofE (v_cons (v_cI 2) v_nil)) rfl rfl rfl b2) (show xp_nil _ = _ from rfl) rfl) rfl) rfl) rfl]
  rw [s_seqE (s_ifE (b := false) (xt_orE (xt_notE (xt_valE (b := true) (x_callGE (i := 0) (n := 1) (en := .gn g2) (e1 := .gn g2) (gs0 := g2) (gs := g2) rfl rfl (x_ofE (v_cons (v_var rfl) v_nil)) rfl rfl rfl r3))) (xt_orE (xt_notE (xt_valE (b := true) (x_callGE (i := 0) (n := 1) (en := .gn g3) (e1 := .gn g3) (gs0 := g3) (gs := g3) rfl rfl (x_ofE (v_cons (v_var rfl) v_nil)) rfl rfl rfl r4))) (x_ofE (v_tnot (b := true) (v_tvalB (v_call (v_cons (v_var rfl) (v_cons (v_var rfl) v_nil)) r5)))))) rfl (show sx_nil _ = _ from rfl)) rfl]
  rw [s_seqE (s_asgE (i := 3) (x_binE (x_ofE (v_cI 2)) (x_callGE (i := 0) (n := 1) (en := .gn g4) (e1 := .gn g4) (gs0 := g4) (gs := g4) rfl rfl (x_ofE (v_cons (v_cI 4) v_nil)) rfl rfl rfl r6) (w_addI _ _))) rfl]
  rw [e2]
  refine ⟨g5, _, s_ofE (v_ret ((v_and (v_bin (v_call (v_cons (v_var rfl) v_nil) (ev_sphere m1 m7)) (v_call (v_cons (v_call (v_cons (v_var rfl) v_nil) (ev_ball m1 m7)) (v_cons (v_bin (v_var rfl) (v_cI 2) (w_subI _ _)) v_nil)) (ev_skeleton hB (((w + 2 : Nat) : Int) - 2) (by omega) (by omega) hsk)) (eq_same _ _ (congrArg (bd (w + 2)) (shell_eq (w + 2) hm)))) fun _ => v_bin (v_call (v_cons (v_call (v_cons (v_var rfl) v_nil) (ev_ball m1 m7)) v_nil) (ev_euler_number hB)) (v_cI 1) (eq_same _ (1 : Int) (ball_euler (w + 2) hm))).trans rfl)), G5.mono (by omega)⟩

theorem main (ns : List Int) (hz : ns.length ≤ 63) : o_law [scD ns] = some (.ok (.bool true)) := by
  unfold o_law sf_law
  suffices h : ∃ ρ, sx_seq _ _ (startE 3 [scD ns]) = some (.fl (.rt (enc true) ρ)) by
    obtain ⟨ρ, h⟩ := h
    exact runXE rfl h
  refine s_forI (f := fun i : Nat => enc ((0 : Int) + (i : Nat))) (xs := List.range 2) (ρ1 := [.im (scD ns), .no, .no]) (R := fun r => ∃ ρ, r = some (.fl (.rt (enc true) ρ)))
    (fun i (s : Unit) ρ => ∃ e1 e2, ρ = [.im (scD ns), e1, e2]) () (x_ofE (v_range1 (b := 2) rfl (by decide) (by decide))) ⟨_, _, rfl⟩ ?_ ?_
  · rintro i s ρ x hx ⟨e1, e2, rfl⟩
    obtain ⟨hi, rfl⟩ : i < 2 ∧ i = x := by
      rcases Nat.lt_or_ge i 2 with q | q
      · rw [List.getElem?_range q] at hx
        exact ⟨q, Option.some.inj hx⟩
      · rw [List.getElem?_eq_none (by rw [List.length_range]; exact q)] at hx; cases hx
    obtain ⟨g, h1, G⟩ := ev_generator ns i hz (by omega)
    obtain ⟨g1, r1, G1⟩ := ev_law_right G (by omega)
    obtain ⟨g2, r2, G2⟩ := ev_law_right G1 (by omega)
    have hd : (0 : Int) + (i : Nat) = (i : Int) := by omega
    refine ⟨_, [.im (scD ns), .im (enc ((0 : Int) + (i : Nat))), .ow g2], (), rfl, ?_, _, _, rfl⟩
    rw [hd]
    refine s_seqE (s_ofE (v_own (i := 2) (ds := g) ?_)) ?_
    · unfold l_bindN
      exact h1
    · exact s_ifE (b := false) (xt_orE (xt_notE (xt_valE (b := true) (x_callGE (i := 2) (n := 0) (en := .ow g) (e1 := .ow g) (gs0 := g) (gs := g) rfl rfl (x_ofE v_nil) rfl rfl rfl r1))) (xt_notE (xt_valE (b := true) (x_callGE (i := 2) (n := 0) (en := .ow g1) (e1 := .ow g1) (gs0 := g1) (gs := g1) rfl rfl (x_ofE v_nil) rfl rfl rfl r2)))) rfl rfl
  · rintro ρ' s ⟨e1, e2, rfl⟩
    exact ⟨_, s_ofE (v_ret rfl)⟩
end K09
end

section
set_option Elab.async false
set_option linter.all false
set_option maxRecDepth 100000
set_option maxHeartbeats 4000000
namespace K09
open PySem PySem.Spec PyProof.Rows L2 DD
abbrev St := L2.St
/-! the text -/
def topS (i : Nat) : Stmt := PySem.Challenge.pw_holestold_k09_whole_complexes_go_along.main.body.getD i (.Pass ⟨0, 0, 0, 0⟩)
section
variable {P : Program} {w : World} {K : PySem.W.Frag} {mg : Str → Option Value} {base : Heap}
/-! is_whole -/
theorem sc_is_whole : FnScope ["value"] ["value"] (defScope (topS 12)) := ⟨rfl, rfl, rfl, by decide +kernel, rfl, by decide +kernel, by decide +kernel⟩
theorem ok_is_whole {f : Addr} {fd : FuncData} (m_bool : mg "bool" = none) (m_int : mg "int" = none) (m_isinstance : mg "isinstance" = none) (D : FunD K "is_whole" "is_whole" (defArgs (topS 12)) (defBody (topS 12)) (defScope (topS 12)) [] [] f fd) (m : mg "is_whole" = some (.ref f)) : Cal P w K mg base 1 "is_whole" 1 o_is_whole :=
  cal_of D m sc_is_whole rfl defD_run (fun _ _ _ _ _ _ us hl => match us, hl with | [_], _ => rfl) fun cdv A outer s H E hr => by
    have nd := sc_is_whole.nd
    exact (ses_one (se_ret (de_and (de_isi "int" (by decide +kernel) (de_var 0) m_isinstance m_int (by decide +kernel)) (de_one (de_not (de_isi "bool" (by decide +kernel) (de_var 0) m_isinstance m_bool (by decide +kernel)))))))
/-! is_many -/
theorem sc_is_many : FnScope ["value"] ["value"] (defScope (topS 13)) := ⟨rfl, rfl, rfl, by decide +kernel, rfl, by decide +kernel, by decide +kernel⟩
theorem ok_is_many {f : Addr} {fd : FuncData} {t_MOST_POINTS : Tok} (g_MOST_POINTS : mg "MOST_POINTS" = some (.int 7 t_MOST_POINTS)) (c_is_whole : Cal P w K mg base 1 "is_whole" 1 o_is_whole) (D : FunD K "is_many" "is_many" (defArgs (topS 13)) (defBody (topS 13)) (defScope (topS 13)) [] [] f fd) (m : mg "is_many" = some (.ref f)) : Cal P w K mg base 2 "is_many" 1 o_is_many :=
  cal_of D m sc_is_many rfl defD_run (fun _ _ _ _ _ _ us hl => match us, hl with | [_], _ => rfl) fun cdv A outer s H E hr => by
    have nd := sc_is_many.nd
    exact (ses_one (se_ret (de_and (de_cal c_is_whole hr (by decide) (da_cons (de_var 0) (da_nil)) (l_cons_len (l_nil_len))) (de_one (de_chain (do_le (room64 hr)) (do_le (room64 hr)) (de_int) (de_var 0) (de_gint rfl g_MOST_POINTS))))))
/-! check_many -/
theorem sc_check_many : FnScope ["many"] ["many"] (defScope (topS 14)) := ⟨rfl, rfl, rfl, by decide +kernel, rfl, by decide +kernel, by decide +kernel⟩
theorem ok_check_many {f : Addr} {fd : FuncData} (c_is_many : Cal P w K mg base 2 "is_many" 1 o_is_many) (D : FunD K "check_many" "check_many" (defArgs (topS 14)) (defBody (topS 14)) (defScope (topS 14)) [] [] f fd) (m : mg "check_many" = some (.ref f)) : Cal P w K mg base 3 "check_many" 1 o_check_many :=
  cal_of D m sc_check_many rfl defD_run (fun _ _ _ _ _ _ us hl => match us, hl with | [_], _ => rfl) fun cdv A outer s H E hr => by
    have nd := sc_check_many.nd
    exact (ses_one (se_if (dt_not (dt_val (de_cal c_is_many hr (by decide) (da_cons (de_var 0) (da_nil)) (l_cons_len (l_nil_len))))) (ses_one (se_bad)) (ses_nil)))
/-! is_lot_by -/
theorem sc_is_lot_by : FnScope ["many", "value", "at", "one"] ["many", "value"] (defScope (topS 15)) := ⟨rfl, rfl, rfl, by decide +kernel, rfl, by decide +kernel, by decide +kernel⟩
theorem ok_is_lot_by {f : Addr} {fd : FuncData} (m_all : mg "all" = none) (m_isinstance : mg "isinstance" = none) (m_len : mg "len" = none) (m_list : mg "list" = none) (m_range : mg "range" = none) (c_is_whole : Cal P w K mg base 1 "is_whole" 1 o_is_whole) (D : FunD K "is_lot_by" "is_lot_by" (defArgs (topS 15)) (defBody (topS 15)) (defScope (topS 15)) [] [] f fd) (m : mg "is_lot_by" = some (.ref f)) : Cal P w K mg base 2 "is_lot_by" 2 o_is_lot_by :=
  cal_of D m sc_is_lot_by rfl defD_run (fun _ _ _ _ _ _ us hl => match us, hl with | [_, _], _ => rfl) fun cdv A outer s H E hr => by
    have nd := sc_is_lot_by.nd
    exact (ses_cons (se_if (DW.dt (dw_or (dt_not (dt_val (de_isi "list" (by decide +kernel) (de_var 1) m_isinstance m_list (by decide +kernel)))) (dw_or1 (dt_not (dt_val (de_callB dc_all m_all (by decide +kernel) (da_cons (de_new (dn_lc (own := [("one", 3)]) (t := (.one 3)) (di_items (de_var 1)) (by decide) (blkOk_by (by rfl)) nd rfl (fun _ _ _ _ _ => pg_name (i := 3) nd rfl (Or.inl rfl)) (fun _ _ _ _ _ => pts_yes) (fun _ _ _ _ _ => (de_and (de_cal c_is_whole hr (by decide) (da_cons (de_var 3) (da_nil)) (l_cons_len (l_nil_len))) (de_one (de_chain (do_le (room64 hr)) (do_lt (room64 hr)) (de_int) (de_var 3) (de_var 0))))))) (da_nil)))))))) (ses_one (se_ret (de_bl))) (ses_nil)) (ses_one (se_ret (de_callB dc_all m_all (by decide +kernel) (da_cons (de_new (dn_lc (own := [("at", 2)]) (t := (.one 2)) (di_range2 m_range (da_cons (de_int) (da_cons (de_callB dc_len m_len (by decide +kernel) (da_cons (de_var 1) (da_nil))) (da_nil)))) (by decide) (blkOk_by (by rfl)) nd rfl (fun _ _ _ _ _ => pg_name (i := 2) nd rfl (Or.inl rfl)) (fun _ _ _ _ _ => pts_yes) (fun _ _ _ _ _ => (de_cmp (do_lt (room64 hr)) (de_ix (de_var 1) (de_bin do_sub (de_var 2) (de_int))) (de_ix (de_var 1) (de_var 2)))))) (da_nil))))))
/-! lots_of -/
theorem sc_lots_of : FnScope ["many", "found", "point", "_", "lot"] ["many"] (defScope (topS 16)) := ⟨rfl, rfl, rfl, by decide +kernel, rfl, by decide +kernel, by decide +kernel⟩
theorem ok_lots_of {f : Addr} {fd : FuncData} (m_len : mg "len" = none) (m_range : mg "range" = none) (m_sorted : mg "sorted" = none) (D : FunD K "lots_of" "lots_of" (defArgs (topS 16)) (defBody (topS 16)) (defScope (topS 16)) [] [] f fd) (m : mg "lots_of" = some (.ref f)) : Cal P w K mg base 1 "lots_of" 1 o_lots_of :=
  cal_of D m sc_lots_of rfl defD_run (fun _ _ _ _ _ _ us hl => match us, hl with | [_], _ => rfl) fun cdv A outer s H E hr => by
    have nd := sc_lots_of.nd
    exact (ses_cons (se_asg (i := 1) nd (de_lst (da_cons (de_lst (da_nil)) (da_nil)))) (ses_cons (se_for (t := (.one 2)) PassesOwn.never (di_range1 m_range (da_cons (de_var 0) (da_nil))) (pg_name (i := 2) nd rfl (Or.inr rfl)) (ses_one (se_asg (i := 1) nd (de_bin do_add (de_var 1) (de_new (dn_lc (own := [("lot", 4)]) (t := (.one 4)) (di_items (de_var 1)) (by decide) (blkOk_by (by rfl)) nd rfl (fun _ _ _ _ _ => pg_name (i := 4) nd rfl (Or.inl rfl)) (fun _ _ _ _ _ => pts_yes) (fun _ _ _ _ _ => (de_bin do_add (de_var 4) (de_lst (da_cons (de_var 2) (da_nil))))))))))) (ses_one (se_ret (de_new (dn_lc (own := [("_", 3), ("lot", 4)]) (t := (.tup [3, 4])) (di_items (de_new (dn_callB (dcn_sorted (room64 hr)) m_sorted (by decide +kernel) (da_cons (de_new (dn_lc (own := [("lot", 4)]) (t := (.one 4)) (di_items (de_var 1)) (by decide) (blkOk_by (by rfl)) nd rfl (fun _ _ _ _ _ => pg_name (i := 4) nd rfl (Or.inl rfl)) (fun _ _ _ _ _ => pts_yes) (fun _ _ _ _ _ => (de_tup (da_cons (de_callB dc_len m_len (by decide +kernel) (da_cons (de_var 4) (da_nil))) (da_cons (de_var 4) (da_nil))))))) (da_nil))))) (by decide) (blkOk_by (by rfl)) nd rfl (fun _ _ _ _ _ => pg_tup rfl (pgs_cons (pg_name (i := 3) nd rfl (Or.inl rfl)) (pgs_cons (pg_name (i := 4) nd rfl (Or.inl rfl)) (pgs_nil)))) (fun _ _ _ _ _ => pts_yes) (fun _ _ _ _ _ => (de_var 4))))))))
/-! is_within -/
theorem sc_is_within : FnScope ["one", "other", "point"] ["one", "other"] (defScope (topS 17)) := ⟨rfl, rfl, rfl, by decide +kernel, rfl, by decide +kernel, by decide +kernel⟩
theorem ok_is_within {f : Addr} {fd : FuncData} (m_all : mg "all" = none) (D : FunD K "is_within" "is_within" (defArgs (topS 17)) (defBody (topS 17)) (defScope (topS 17)) [] [] f fd) (m : mg "is_within" = some (.ref f)) : Cal P w K mg base 1 "is_within" 2 o_is_within :=
  cal_of D m sc_is_within rfl defD_run (fun _ _ _ _ _ _ us hl => match us, hl with | [_, _], _ => rfl) fun cdv A outer s H E hr => by
    have nd := sc_is_within.nd
    exact (ses_one (se_ret (de_callB dc_all m_all (by decide +kernel) (da_cons (de_new (dn_lc (own := [("point", 2)]) (t := (.one 2)) (di_items (de_var 0)) (by decide) (blkOk_by (by rfl)) nd rfl (fun _ _ _ _ _ => pg_name (i := 2) nd rfl (Or.inl rfl)) (fun _ _ _ _ _ => pts_yes) (fun _ _ _ _ _ => (de_cmp (do_in (room65 hr)) (de_var 2) (de_var 1))))) (da_nil)))))
/-! is_complex_by -/
theorem sc_is_complex_by : FnScope ["value", "tops", "at", "top", "other"] ["value"] (defScope (topS 18)) := ⟨rfl, rfl, rfl, by decide +kernel, rfl, by decide +kernel, by decide +kernel⟩
theorem ok_is_complex_by {f : Addr} {fd : FuncData} (m_all : mg "all" = none) (m_any : mg "any" = none) (m_enumerate : mg "enumerate" = none) (m_isinstance : mg "isinstance" = none) (m_len : mg "len" = none) (m_list : mg "list" = none) (m_range : mg "range" = none) (m_str : mg "str" = none) (m_tuple : mg "tuple" = none) {t_MOST_TOPS : Tok} (g_MOST_TOPS : mg "MOST_TOPS" = some (.int 20 t_MOST_TOPS)) (c_is_many : Cal P w K mg base 2 "is_many" 1 o_is_many) (c_is_lot_by : Cal P w K mg base 2 "is_lot_by" 2 o_is_lot_by) (c_is_within : Cal P w K mg base 1 "is_within" 2 o_is_within) (D : FunD K "is_complex_by" "is_complex_by" (defArgs (topS 18)) (defBody (topS 18)) (defScope (topS 18)) [] [] f fd) (m : mg "is_complex_by" = some (.ref f)) : Cal P w K mg base 3 "is_complex_by" 1 o_is_complex_by :=
  cal_of D m sc_is_complex_by rfl defD_run (fun _ _ _ _ _ _ us hl => match us, hl with | [_], _ => rfl) fun cdv A outer s H E hr => by
    have nd := sc_is_complex_by.nd
    exact (ses_cons (se_if (DW.dt (dw_or (dt_not (dt_val (de_isi "tuple" (by decide +kernel) (de_var 0) m_isinstance m_tuple (by decide +kernel)))) (dw_or (dt_cmp (do_ne (room64 hr)) (de_callB dc_len m_len (by decide +kernel) (da_cons (de_var 0) (da_nil))) (de_int)) (dw_or (dt_not (dt_val (de_isi "str" (by decide +kernel) (de_ix (de_var 0) (de_int)) m_isinstance m_str (by decide +kernel)))) (dw_or1 (dt_cmp (do_ne (room64 hr)) (de_ix (de_var 0) (de_int)) (de_str))))))) (ses_one (se_ret (de_bl))) (ses_nil)) (ses_cons (se_if (DW.dt (dw_or (dt_not (dt_val (de_cal c_is_many hr (by decide) (da_cons (de_ix (de_var 0) (de_int)) (da_nil)) (l_cons_len (l_nil_len))))) (dw_or (dt_not (dt_val (de_isi "list" (by decide +kernel) (de_ix (de_var 0) (de_int)) m_isinstance m_list (by decide +kernel)))) (dw_or1 (dt_cmp (do_gt (room64 hr)) (de_callB dc_len m_len (by decide +kernel) (da_cons (de_ix (de_var 0) (de_int)) (da_nil))) (de_gint rfl g_MOST_TOPS)))))) (ses_one (se_ret (de_bl))) (ses_nil)) (ses_cons (se_asg (i := 1) nd (de_ix (de_var 0) (de_int))) (ses_cons (se_if (dt_not (dt_val (de_callB dc_all m_all (by decide +kernel) (da_cons (de_new (dn_lc (own := [("top", 3)]) (t := (.one 3)) (di_items (de_var 1)) (by decide) (blkOk_by (by rfl)) nd rfl (fun _ _ _ _ _ => pg_name (i := 3) nd rfl (Or.inl rfl)) (fun _ _ _ _ _ => pts_yes) (fun _ _ _ _ _ => (de_and (de_cal c_is_lot_by hr (by decide) (da_cons (de_ix (de_var 0) (de_int)) (da_cons (de_var 3) (da_nil))) (l_cons_len (l_cons_len (l_nil_len)))) (de_one (de_cmp (do_ne (room64 hr)) (de_var 3) (de_lst (da_nil)))))))) (da_nil))))) (ses_one (se_ret (de_bl))) (ses_nil)) (ses_cons (se_if (dt_not (dt_val (de_callB dc_all m_all (by decide +kernel) (da_cons (de_new (dn_lc (own := [("at", 2)]) (t := (.one 2)) (di_range2 m_range (da_cons (de_int) (da_cons (de_callB dc_len m_len (by decide +kernel) (da_cons (de_var 1) (da_nil))) (da_nil)))) (by decide) (blkOk_by (by rfl)) nd rfl (fun _ _ _ _ _ => pg_name (i := 2) nd rfl (Or.inl rfl)) (fun _ _ _ _ _ => pts_yes) (fun _ _ _ _ _ => (de_cmp (do_lt (room64 hr)) (de_ix (de_var 1) (de_bin do_sub (de_var 2) (de_int))) (de_ix (de_var 1) (de_var 2)))))) (da_nil))))) (ses_one (se_ret (de_bl))) (ses_nil)) (ses_cons (se_for (t := (.tup [2, 3])) PassesOwn.never (di_enum m_enumerate (da_cons (de_var 1) (da_nil))) (pg_tup rfl (pgs_cons (pg_name (i := 2) nd rfl (Or.inl rfl)) (pgs_cons (pg_name (i := 3) nd rfl (Or.inr rfl)) (pgs_nil)))) (ses_one (se_if (dt_val (de_callB dc_any m_any (by decide +kernel) (da_cons (de_new (dn_lc (own := [("other", 4)]) (t := (.one 4)) (di_items (de_bin do_add (de_cut (de_var 1) do_no (do_at (de_var 2))) (de_cut (de_var 1) (do_at (de_bin do_add (de_var 2) (de_int))) do_no))) (by decide) (blkOk_by (by rfl)) nd rfl (fun _ _ _ _ _ => pg_name (i := 4) nd rfl (Or.inl rfl)) (fun _ _ _ _ _ => pts_yes) (fun _ _ _ _ _ => (de_cal c_is_within hr (by decide) (da_cons (de_var 3) (da_cons (de_var 4) (da_nil))) (l_cons_len (l_cons_len (l_nil_len))))))) (da_nil)))) (ses_one (se_ret (de_bl))) (ses_nil)))) (ses_one (se_ret (de_bl)))))))))
/-! check_complex -/
theorem sc_check_complex : FnScope ["body"] ["body"] (defScope (topS 19)) := ⟨rfl, rfl, rfl, by decide +kernel, rfl, by decide +kernel, by decide +kernel⟩
theorem ok_check_complex {f : Addr} {fd : FuncData} (c_is_complex_by : Cal P w K mg base 3 "is_complex_by" 1 o_is_complex_by) (D : FunD K "check_complex" "check_complex" (defArgs (topS 19)) (defBody (topS 19)) (defScope (topS 19)) [] [] f fd) (m : mg "check_complex" = some (.ref f)) : Cal P w K mg base 4 "check_complex" 1 o_check_complex :=
  cal_of D m sc_check_complex rfl defD_run (fun _ _ _ _ _ _ us hl => match us, hl with | [_], _ => rfl) fun cdv A outer s H E hr => by
    have nd := sc_check_complex.nd
    exact (ses_one (se_if (dt_not (dt_val (de_cal c_is_complex_by hr (by decide) (da_cons (de_var 0) (da_nil)) (l_cons_len (l_nil_len))))) (ses_one (se_bad)) (ses_nil)))
/-! many_in -/
theorem sc_many_in : FnScope ["body"] ["body"] (defScope (topS 20)) := ⟨rfl, rfl, rfl, by decide +kernel, rfl, by decide +kernel, by decide +kernel⟩
theorem ok_many_in {f : Addr} {fd : FuncData} (D : FunD K "many_in" "many_in" (defArgs (topS 20)) (defBody (topS 20)) (defScope (topS 20)) [] [] f fd) (m : mg "many_in" = some (.ref f)) : Cal P w K mg base 1 "many_in" 1 o_many_in :=
  cal_of D m sc_many_in rfl defD_run (fun _ _ _ _ _ _ us hl => match us, hl with | [_], _ => rfl) fun cdv A outer s H E hr => by
    have nd := sc_many_in.nd
    exact (ses_one (se_ret (de_ix (de_var 0) (de_int))))
/-! tops_in -/
theorem sc_tops_in : FnScope ["body", "top"] ["body"] (defScope (topS 21)) := ⟨rfl, rfl, rfl, by decide +kernel, rfl, by decide +kernel, by decide +kernel⟩
theorem ok_tops_in {f : Addr} {fd : FuncData} (m_list : mg "list" = none) (D : FunD K "tops_in" "tops_in" (defArgs (topS 21)) (defBody (topS 21)) (defScope (topS 21)) [] [] f fd) (m : mg "tops_in" = some (.ref f)) : Cal P w K mg base 1 "tops_in" 1 o_tops_in :=
  cal_of D m sc_tops_in rfl defD_run (fun _ _ _ _ _ _ us hl => match us, hl with | [_], _ => rfl) fun cdv A outer s H E hr => by
    have nd := sc_tops_in.nd
    exact (ses_one (se_ret (de_new (dn_lc (own := [("top", 1)]) (t := (.one 1)) (di_items (de_ix (de_var 0) (de_int))) (by decide) (blkOk_by (by rfl)) nd rfl (fun _ _ _ _ _ => pg_name (i := 1) nd rfl (Or.inl rfl)) (fun _ _ _ _ _ => pts_yes) (fun _ _ _ _ _ => (de_new (dn_callT dcn_list m_list (by decide +kernel) (da_cons (de_var 1) (da_nil)))))))))
/-! has_face -/
theorem sc_has_face : FnScope ["body", "lot", "top"] ["body", "lot"] (defScope (topS 22)) := ⟨rfl, rfl, rfl, by decide +kernel, rfl, by decide +kernel, by decide +kernel⟩
theorem ok_has_face {f : Addr} {fd : FuncData} (m_any : mg "any" = none) (c_is_within : Cal P w K mg base 1 "is_within" 2 o_is_within) (D : FunD K "has_face" "has_face" (defArgs (topS 22)) (defBody (topS 22)) (defScope (topS 22)) [] [] f fd) (m : mg "has_face" = some (.ref f)) : Cal P w K mg base 2 "has_face" 2 o_has_face :=
  cal_of D m sc_has_face rfl defD_run (fun _ _ _ _ _ _ us hl => match us, hl with | [_, _], _ => rfl) fun cdv A outer s H E hr => by
    have nd := sc_has_face.nd
    exact (ses_one (se_ret (de_and (de_cmp (do_ne (room64 hr)) (de_var 1) (de_lst (da_nil))) (de_one (de_callB dc_any m_any (by decide +kernel) (da_cons (de_new (dn_lc (own := [("top", 2)]) (t := (.one 2)) (di_items (de_ix (de_var 0) (de_int))) (by decide) (blkOk_by (by rfl)) nd rfl (fun _ _ _ _ _ => pg_name (i := 2) nd rfl (Or.inl rfl)) (fun _ _ _ _ _ => pts_yes) (fun _ _ _ _ _ => (de_cal c_is_within hr (by decide) (da_cons (de_var 1) (da_cons (de_var 2) (da_nil))) (l_cons_len (l_cons_len (l_nil_len))))))) (da_nil)))))))
/-! faces_by -/
theorem sc_faces_by : FnScope ["body", "lot"] ["body"] (defScope (topS 23)) := ⟨rfl, rfl, rfl, by decide +kernel, rfl, by decide +kernel, by decide +kernel⟩
theorem ok_faces_by {f : Addr} {fd : FuncData} (c_lots_of : Cal P w K mg base 1 "lots_of" 1 o_lots_of) (c_has_face : Cal P w K mg base 2 "has_face" 2 o_has_face) (D : FunD K "faces_by" "faces_by" (defArgs (topS 23)) (defBody (topS 23)) (defScope (topS 23)) [] [] f fd) (m : mg "faces_by" = some (.ref f)) : Cal P w K mg base 3 "faces_by" 1 o_faces_by :=
  cal_of D m sc_faces_by rfl defD_run (fun _ _ _ _ _ _ us hl => match us, hl with | [_], _ => rfl) fun cdv A outer s H E hr => by
    have nd := sc_faces_by.nd
    exact (ses_one (se_ret (de_new (dn_lc (own := [("lot", 1)]) (t := (.one 1)) (di_items (de_cal c_lots_of hr (by decide) (da_cons (de_ix (de_var 0) (de_int)) (da_nil)) (l_cons_len (l_nil_len)))) (by decide) (blkOk_by (by rfl)) nd rfl (fun _ _ _ _ _ => pg_name (i := 1) nd rfl (Or.inl rfl)) (fun _ _ _ _ _ => pts_if (dt_val (de_cal c_has_face hr (by decide) (da_cons (de_var 0) (da_cons (de_var 1) (da_nil))) (l_cons_len (l_cons_len (l_nil_len)))))) (fun _ _ _ _ _ => (de_var 1))))))
/-! faces_at -/
theorem sc_faces_at : FnScope ["body", "dimension", "face"] ["body", "dimension"] (defScope (topS 24)) := ⟨rfl, rfl, rfl, by decide +kernel, rfl, by decide +kernel, by decide +kernel⟩
theorem ok_faces_at {f : Addr} {fd : FuncData} (m_len : mg "len" = none) (c_faces_by : Cal P w K mg base 3 "faces_by" 1 o_faces_by) (D : FunD K "faces_at" "faces_at" (defArgs (topS 24)) (defBody (topS 24)) (defScope (topS 24)) [] [] f fd) (m : mg "faces_at" = some (.ref f)) : Cal P w K mg base 4 "faces_at" 2 o_faces_at :=
  cal_of D m sc_faces_at rfl defD_run (fun _ _ _ _ _ _ us hl => match us, hl with | [_, _], _ => rfl) fun cdv A outer s H E hr => by
    have nd := sc_faces_at.nd
    exact (ses_one (se_ret (de_new (dn_lc (own := [("face", 2)]) (t := (.one 2)) (di_items (de_cal c_faces_by hr (by decide) (da_cons (de_var 0) (da_nil)) (l_cons_len (l_nil_len)))) (by decide) (blkOk_by (by rfl)) nd rfl (fun _ _ _ _ _ => pg_name (i := 2) nd rfl (Or.inl rfl)) (fun _ _ _ _ _ => pts_if (dt_cmp (do_eq (room64 hr)) (de_callB dc_len m_len (by decide +kernel) (da_cons (de_var 2) (da_nil))) (de_bin do_add (de_var 1) (de_int)))) (fun _ _ _ _ _ => (de_var 2))))))
/-! dimension_of -/
theorem sc_dimension_of : FnScope ["body", "top"] ["body"] (defScope (topS 25)) := ⟨rfl, rfl, rfl, by decide +kernel, rfl, by decide +kernel, by decide +kernel⟩
theorem ok_dimension_of {f : Addr} {fd : FuncData} (m_len : mg "len" = none) (m_max : mg "max" = none) (D : FunD K "dimension_of" "dimension_of" (defArgs (topS 25)) (defBody (topS 25)) (defScope (topS 25)) [] [] f fd) (m : mg "dimension_of" = some (.ref f)) : Cal P w K mg base 1 "dimension_of" 1 o_dimension_of :=
  cal_of D m sc_dimension_of rfl defD_run (fun _ _ _ _ _ _ us hl => match us, hl with | [_], _ => rfl) fun cdv A outer s H E hr => by
    have nd := sc_dimension_of.nd
    exact (ses_one (se_ret (de_bin do_sub (de_callB dc_max1 m_max (by decide +kernel) (da_cons (de_bin do_add (de_new (dn_lc (own := [("top", 1)]) (t := (.one 1)) (di_items (de_ix (de_var 0) (de_int))) (by decide) (blkOk_by (by rfl)) nd rfl (fun _ _ _ _ _ => pg_name (i := 1) nd rfl (Or.inl rfl)) (fun _ _ _ _ _ => pts_yes) (fun _ _ _ _ _ => (de_callB dc_len m_len (by decide +kernel) (da_cons (de_var 1) (da_nil)))))) (de_lst (da_cons (de_int) (da_nil)))) (da_nil))) (de_int))))
/-! complex_of -/
theorem sc_complex_of : FnScope ["many", "lots", "found", "lot", "other"] ["many", "lots"] (defScope (topS 26)) := ⟨rfl, rfl, rfl, by decide +kernel, rfl, by decide +kernel, by decide +kernel⟩
theorem ok_complex_of {f : Addr} {fd : FuncData} (m_any : mg "any" = none) (m_list : mg "list" = none) (m_sorted : mg "sorted" = none) (c_is_within : Cal P w K mg base 1 "is_within" 2 o_is_within) (D : FunD K "complex_of" "complex_of" (defArgs (topS 26)) (defBody (topS 26)) (defScope (topS 26)) [] [] f fd) (m : mg "complex_of" = some (.ref f)) : Cal P w K mg base 2 "complex_of" 2 o_complex_of :=
  cal_of D m sc_complex_of rfl defD_run (fun _ _ _ _ _ _ us hl => match us, hl with | [_, _], _ => rfl) fun cdv A outer s H E hr => by
    have nd := sc_complex_of.nd
    exact (ses_cons (se_own (i := 2) nd (dn_lst (da_nil))) (ses_cons (se_for (t := (.one 3)) PassesOwn.never (di_items (de_var 1)) (pg_name (i := 3) nd rfl (Or.inr rfl)) (ses_one (se_if (DW.dt (dw_and (dt_cmp (do_ne (room64 hr)) (de_var 3) (de_lst (da_nil))) (dw_and (dt_sc (dt_cmp (do_notin (room65 hr)) (de_var 3) (de_var 2))) (dw_and1 (dt_not (dt_val (de_callB dc_any m_any (by decide +kernel) (da_cons (de_new (dn_lc (own := [("other", 4)]) (t := (.one 4)) (di_items (de_var 1)) (by decide) (blkOk_by (by rfl)) nd rfl (fun _ _ _ _ _ => pg_name (i := 4) nd rfl (Or.inl rfl)) (fun _ _ _ _ _ => pts_yes) (fun _ _ _ _ _ => (de_and (de_cmp (do_ne (room64 hr)) (de_var 3) (de_var 4)) (de_one (de_cal c_is_within hr (by decide) (da_cons (de_var 3) (da_cons (de_var 4) (da_nil))) (l_cons_len (l_cons_len (l_nil_len))))))))) (da_nil))))))))) (ses_one (se_app (pe_bm PySem.F.plainAttrs_list PySem.F.slot_list_append PySem.F.type_list_append mt_append (pv 2) (pa_cons (de_new (dn_callT dcn_list m_list (by decide +kernel) (da_cons (de_var 3) (da_nil)))) pa_nil)))) (ses_nil)))) (ses_one (se_ret (de_tup (da_cons (de_str) (da_cons (de_var 0) (da_cons (de_new (dn_sortedo 2 hr m_sorted)) (da_nil)))))))))
/-! is_face_by -/
theorem sc_is_face_by : FnScope ["body", "value"] ["body", "value"] (defScope (topS 27)) := ⟨rfl, rfl, rfl, by decide +kernel, rfl, by decide +kernel, by decide +kernel⟩
theorem ok_is_face_by {f : Addr} {fd : FuncData} (c_has_face : Cal P w K mg base 2 "has_face" 2 o_has_face) (c_is_lot_by : Cal P w K mg base 2 "is_lot_by" 2 o_is_lot_by) (D : FunD K "is_face_by" "is_face_by" (defArgs (topS 27)) (defBody (topS 27)) (defScope (topS 27)) [] [] f fd) (m : mg "is_face_by" = some (.ref f)) : Cal P w K mg base 3 "is_face_by" 2 o_is_face_by :=
  cal_of D m sc_is_face_by rfl defD_run (fun _ _ _ _ _ _ us hl => match us, hl with | [_, _], _ => rfl) fun cdv A outer s H E hr => by
    have nd := sc_is_face_by.nd
    exact (ses_one (se_ret (de_and (de_cal c_is_lot_by hr (by decide) (da_cons (de_ix (de_var 0) (de_int)) (da_cons (de_var 1) (da_nil))) (l_cons_len (l_cons_len (l_nil_len)))) (de_one (de_cal c_has_face hr (by decide) (da_cons (de_var 0) (da_cons (de_var 1) (da_nil))) (l_cons_len (l_cons_len (l_nil_len))))))))
/-! check_face -/
theorem sc_check_face : FnScope ["body", "face"] ["body", "face"] (defScope (topS 28)) := ⟨rfl, rfl, rfl, by decide +kernel, rfl, by decide +kernel, by decide +kernel⟩
theorem ok_check_face {f : Addr} {fd : FuncData} (c_is_face_by : Cal P w K mg base 3 "is_face_by" 2 o_is_face_by) (D : FunD K "check_face" "check_face" (defArgs (topS 28)) (defBody (topS 28)) (defScope (topS 28)) [] [] f fd) (m : mg "check_face" = some (.ref f)) : Cal P w K mg base 4 "check_face" 2 o_check_face :=
  cal_of D m sc_check_face rfl defD_run (fun _ _ _ _ _ _ us hl => match us, hl with | [_, _], _ => rfl) fun cdv A outer s H E hr => by
    have nd := sc_check_face.nd
    exact (ses_one (se_if (dt_not (dt_val (de_cal c_is_face_by hr (by decide) (da_cons (de_var 0) (da_cons (de_var 1) (da_nil))) (l_cons_len (l_cons_len (l_nil_len)))))) (ses_one (se_bad)) (ses_nil)))
/-! check_dimension -/
theorem sc_check_dimension : FnScope ["dimension"] ["dimension"] (defScope (topS 29)) := ⟨rfl, rfl, rfl, by decide +kernel, rfl, by decide +kernel, by decide +kernel⟩
theorem ok_check_dimension {f : Addr} {fd : FuncData} {t_MOST_POINTS : Tok} (g_MOST_POINTS : mg "MOST_POINTS" = some (.int 7 t_MOST_POINTS)) (c_is_whole : Cal P w K mg base 1 "is_whole" 1 o_is_whole) (D : FunD K "check_dimension" "check_dimension" (defArgs (topS 29)) (defBody (topS 29)) (defScope (topS 29)) [] [] f fd) (m : mg "check_dimension" = some (.ref f)) : Cal P w K mg base 2 "check_dimension" 1 o_check_dimension :=
  cal_of D m sc_check_dimension rfl defD_run (fun _ _ _ _ _ _ us hl => match us, hl with | [_], _ => rfl) fun cdv A outer s H E hr => by
    have nd := sc_check_dimension.nd
    exact (ses_one (se_if (DW.dt (dw_or (dt_not (dt_val (de_cal c_is_whole hr (by decide) (da_cons (de_var 0) (da_nil)) (l_cons_len (l_nil_len))))) (dw_or1 (dt_not (dt_chain (do_le (room64 hr)) (do_lt (room64 hr)) (de_int) (de_var 0) (de_gint rfl g_MOST_POINTS)))))) (ses_one (se_bad)) (ses_nil)))
/-! is_complex -/
theorem sc_is_complex : FnScope ["value"] ["value"] (defScope (topS 31)) := ⟨rfl, rfl, rfl, by decide +kernel, rfl, by decide +kernel, by decide +kernel⟩
theorem ok_is_complex {f : Addr} {fd : FuncData} (c_is_complex_by : Cal P w K mg base 3 "is_complex_by" 1 o_is_complex_by) (D : FunD K "is_complex" "is_complex" (defArgs (topS 31)) (defBody (topS 31)) (defScope (topS 31)) [] [] f fd) (m : mg "is_complex" = some (.ref f)) : Cal P w K mg base 4 "is_complex" 1 o_is_complex :=
  cal_of D m sc_is_complex rfl defD_run (fun _ _ _ _ _ _ us hl => match us, hl with | [_], _ => rfl) fun cdv A outer s H E hr => by
    have nd := sc_is_complex.nd
    exact (ses_one (se_ret (de_cal c_is_complex_by hr (by decide) (da_cons (de_var 0) (da_nil)) (l_cons_len (l_nil_len)))))
/-! check_lots -/
theorem sc_check_lots : FnScope ["many", "lots", "lot"] ["many", "lots"] (defScope (topS 32)) := ⟨rfl, rfl, rfl, by decide +kernel, rfl, by decide +kernel, by decide +kernel⟩
theorem ok_check_lots {f : Addr} {fd : FuncData} (m_all : mg "all" = none) (m_isinstance : mg "isinstance" = none) (m_list : mg "list" = none) (c_is_lot_by : Cal P w K mg base 2 "is_lot_by" 2 o_is_lot_by) (D : FunD K "check_lots" "check_lots" (defArgs (topS 32)) (defBody (topS 32)) (defScope (topS 32)) [] [] f fd) (m : mg "check_lots" = some (.ref f)) : Cal P w K mg base 3 "check_lots" 2 o_check_lots :=
  cal_of D m sc_check_lots rfl defD_run (fun _ _ _ _ _ _ us hl => match us, hl with | [_, _], _ => rfl) fun cdv A outer s H E hr => by
    have nd := sc_check_lots.nd
    exact (ses_one (se_if (DW.dt (dw_or (dt_not (dt_val (de_isi "list" (by decide +kernel) (de_var 1) m_isinstance m_list (by decide +kernel)))) (dw_or1 (dt_not (dt_val (de_callB dc_all m_all (by decide +kernel) (da_cons (de_new (dn_lc (own := [("lot", 2)]) (t := (.one 2)) (di_items (de_var 1)) (by decide) (blkOk_by (by rfl)) nd rfl (fun _ _ _ _ _ => pg_name (i := 2) nd rfl (Or.inl rfl)) (fun _ _ _ _ _ => pts_yes) (fun _ _ _ _ _ => (de_cal c_is_lot_by hr (by decide) (da_cons (de_var 0) (da_cons (de_var 2) (da_nil))) (l_cons_len (l_cons_len (l_nil_len))))))) (da_nil)))))))) (ses_one (se_bad)) (ses_nil)))
/-! checked -/
theorem sc_checked : FnScope ["body"] ["body"] (defScope (topS 33)) := ⟨rfl, rfl, rfl, by decide +kernel, rfl, by decide +kernel, by decide +kernel⟩
theorem ok_checked {f : Addr} {fd : FuncData} (m_len : mg "len" = none) {t_MOST_TOPS : Tok} (g_MOST_TOPS : mg "MOST_TOPS" = some (.int 20 t_MOST_TOPS)) (D : FunD K "checked" "checked" (defArgs (topS 33)) (defBody (topS 33)) (defScope (topS 33)) [] [] f fd) (m : mg "checked" = some (.ref f)) : Cal P w K mg base 1 "checked" 1 o_checked :=
  cal_of D m sc_checked rfl defD_run (fun _ _ _ _ _ _ us hl => match us, hl with | [_], _ => rfl) fun cdv A outer s H E hr => by
    have nd := sc_checked.nd
    exact (ses_cons (se_if (dt_cmp (do_gt (room64 hr)) (de_callB dc_len m_len (by decide +kernel) (da_cons (de_ix (de_var 0) (de_int)) (da_nil))) (de_gint rfl g_MOST_TOPS)) (ses_one (se_bad)) (ses_nil)) (ses_one (se_ret (de_var 0))))
/-! complex_with -/
theorem sc_complex_with : FnScope ["many", "lots"] ["many", "lots"] (defScope (topS 34)) := ⟨rfl, rfl, rfl, by decide +kernel, rfl, by decide +kernel, by decide +kernel⟩
theorem ok_complex_with {f : Addr} {fd : FuncData} (c_check_many : Cal P w K mg base 3 "check_many" 1 o_check_many) (c_check_lots : Cal P w K mg base 3 "check_lots" 2 o_check_lots) (c_checked : Cal P w K mg base 1 "checked" 1 o_checked) (c_complex_of : Cal P w K mg base 2 "complex_of" 2 o_complex_of) (D : FunD K "complex_with" "complex_with" (defArgs (topS 34)) (defBody (topS 34)) (defScope (topS 34)) [] [] f fd) (m : mg "complex_with" = some (.ref f)) : Cal P w K mg base 4 "complex_with" 2 o_complex_with :=
  cal_of D m sc_complex_with rfl defD_run (fun _ _ _ _ _ _ us hl => match us, hl with | [_, _], _ => rfl) fun cdv A outer s H E hr => by
    have nd := sc_complex_with.nd
    exact (ses_cons (se_drop (de_cal c_check_many hr (by decide) (da_cons (de_var 0) (da_nil)) (l_cons_len (l_nil_len)))) (ses_cons (se_drop (de_cal c_check_lots hr (by decide) (da_cons (de_var 0) (da_cons (de_var 1) (da_nil))) (l_cons_len (l_cons_len (l_nil_len))))) (ses_one (se_ret (de_cal c_checked hr (by decide) (da_cons (de_cal c_complex_of hr (by decide) (da_cons (de_var 0) (da_cons (de_var 1) (da_nil))) (l_cons_len (l_cons_len (l_nil_len)))) (da_nil)) (l_cons_len (l_nil_len)))))))
/-! all_faces -/
theorem sc_all_faces : FnScope ["body"] ["body"] (defScope (topS 35)) := ⟨rfl, rfl, rfl, by decide +kernel, rfl, by decide +kernel, by decide +kernel⟩
theorem ok_all_faces {f : Addr} {fd : FuncData} (c_check_complex : Cal P w K mg base 4 "check_complex" 1 o_check_complex) (c_faces_by : Cal P w K mg base 3 "faces_by" 1 o_faces_by) (D : FunD K "all_faces" "all_faces" (defArgs (topS 35)) (defBody (topS 35)) (defScope (topS 35)) [] [] f fd) (m : mg "all_faces" = some (.ref f)) : Cal P w K mg base 5 "all_faces" 1 o_all_faces :=
  cal_of D m sc_all_faces rfl defD_run (fun _ _ _ _ _ _ us hl => match us, hl with | [_], _ => rfl) fun cdv A outer s H E hr => by
    have nd := sc_all_faces.nd
    exact (ses_cons (se_drop (de_cal c_check_complex hr (by decide) (da_cons (de_var 0) (da_nil)) (l_cons_len (l_nil_len)))) (ses_one (se_ret (de_cal c_faces_by hr (by decide) (da_cons (de_var 0) (da_nil)) (l_cons_len (l_nil_len))))))
/-! is_face -/
theorem sc_is_face : FnScope ["body", "value"] ["body", "value"] (defScope (topS 36)) := ⟨rfl, rfl, rfl, by decide +kernel, rfl, by decide +kernel, by decide +kernel⟩
theorem ok_is_face {f : Addr} {fd : FuncData} (c_check_complex : Cal P w K mg base 4 "check_complex" 1 o_check_complex) (c_is_face_by : Cal P w K mg base 3 "is_face_by" 2 o_is_face_by) (D : FunD K "is_face" "is_face" (defArgs (topS 36)) (defBody (topS 36)) (defScope (topS 36)) [] [] f fd) (m : mg "is_face" = some (.ref f)) : Cal P w K mg base 5 "is_face" 2 o_is_face :=
  cal_of D m sc_is_face rfl defD_run (fun _ _ _ _ _ _ us hl => match us, hl with | [_, _], _ => rfl) fun cdv A outer s H E hr => by
    have nd := sc_is_face.nd
    exact (ses_cons (se_drop (de_cal c_check_complex hr (by decide) (da_cons (de_var 0) (da_nil)) (l_cons_len (l_nil_len)))) (ses_one (se_ret (de_cal c_is_face_by hr (by decide) (da_cons (de_var 0) (da_cons (de_var 1) (da_nil))) (l_cons_len (l_cons_len (l_nil_len)))))))
/-! counts_by -/
theorem sc_counts_by : FnScope ["body", "dimension"] ["body"] (defScope (topS 37)) := ⟨rfl, rfl, rfl, by decide +kernel, rfl, by decide +kernel, by decide +kernel⟩
theorem ok_counts_by {f : Addr} {fd : FuncData} (m_len : mg "len" = none) (m_range : mg "range" = none) (c_dimension_of : Cal P w K mg base 1 "dimension_of" 1 o_dimension_of) (c_faces_at : Cal P w K mg base 4 "faces_at" 2 o_faces_at) (D : FunD K "counts_by" "counts_by" (defArgs (topS 37)) (defBody (topS 37)) (defScope (topS 37)) [] [] f fd) (m : mg "counts_by" = some (.ref f)) : Cal P w K mg base 5 "counts_by" 1 o_counts_by :=
  cal_of D m sc_counts_by rfl defD_run (fun _ _ _ _ _ _ us hl => match us, hl with | [_], _ => rfl) fun cdv A outer s H E hr => by
    have nd := sc_counts_by.nd
    exact (ses_one (se_ret (de_new (dn_lc (own := [("dimension", 1)]) (t := (.one 1)) (di_range1 m_range (da_cons (de_bin do_add (de_cal c_dimension_of hr (by decide) (da_cons (de_var 0) (da_nil)) (l_cons_len (l_nil_len))) (de_int)) (da_nil))) (by decide) (blkOk_by (by rfl)) nd rfl (fun _ _ _ _ _ => pg_name (i := 1) nd rfl (Or.inl rfl)) (fun _ _ _ _ _ => pts_yes) (fun _ _ _ _ _ => (de_callB dc_len m_len (by decide +kernel) (da_cons (de_cal c_faces_at hr (by decide) (da_cons (de_var 0) (da_cons (de_var 1) (da_nil))) (l_cons_len (l_cons_len (l_nil_len)))) (da_nil))))))))
/-! face_counts -/
theorem sc_face_counts : FnScope ["body"] ["body"] (defScope (topS 38)) := ⟨rfl, rfl, rfl, by decide +kernel, rfl, by decide +kernel, by decide +kernel⟩
theorem ok_face_counts {f : Addr} {fd : FuncData} (c_check_complex : Cal P w K mg base 4 "check_complex" 1 o_check_complex) (c_counts_by : Cal P w K mg base 5 "counts_by" 1 o_counts_by) (D : FunD K "face_counts" "face_counts" (defArgs (topS 38)) (defBody (topS 38)) (defScope (topS 38)) [] [] f fd) (m : mg "face_counts" = some (.ref f)) : Cal P w K mg base 6 "face_counts" 1 o_face_counts :=
  cal_of D m sc_face_counts rfl defD_run (fun _ _ _ _ _ _ us hl => match us, hl with | [_], _ => rfl) fun cdv A outer s H E hr => by
    have nd := sc_face_counts.nd
    exact (ses_cons (se_drop (de_cal c_check_complex hr (by decide) (da_cons (de_var 0) (da_nil)) (l_cons_len (l_nil_len)))) (ses_one (se_ret (de_cal c_counts_by hr (by decide) (da_cons (de_var 0) (da_nil)) (l_cons_len (l_nil_len))))))
/-! euler_by -/
theorem sc_euler_by : FnScope ["body", "at", "count"] ["body"] (defScope (topS 39)) := ⟨rfl, rfl, rfl, by decide +kernel, rfl, by decide +kernel, by decide +kernel⟩
theorem ok_euler_by {f : Addr} {fd : FuncData} (m_enumerate : mg "enumerate" = none) (m_sum : mg "sum" = none) (c_counts_by : Cal P w K mg base 5 "counts_by" 1 o_counts_by) (D : FunD K "euler_by" "euler_by" (defArgs (topS 39)) (defBody (topS 39)) (defScope (topS 39)) [] [] f fd) (m : mg "euler_by" = some (.ref f)) : Cal P w K mg base 6 "euler_by" 1 o_euler_by :=
  cal_of D m sc_euler_by rfl defD_run (fun _ _ _ _ _ _ us hl => match us, hl with | [_], _ => rfl) fun cdv A outer s H E hr => by
    have nd := sc_euler_by.nd
    exact (ses_one (se_ret (de_callB dc_sum m_sum (by decide +kernel) (da_cons (de_new (dn_lc (own := [("at", 1), ("count", 2)]) (t := (.tup [1, 2])) (di_enum m_enumerate (da_cons (de_cal c_counts_by hr (by decide) (da_cons (de_var 0) (da_nil)) (l_cons_len (l_nil_len))) (da_nil))) (by decide) (blkOk_by (by rfl)) nd rfl (fun _ _ _ _ _ => pg_tup rfl (pgs_cons (pg_name (i := 1) nd rfl (Or.inl rfl)) (pgs_cons (pg_name (i := 2) nd rfl (Or.inl rfl)) (pgs_nil)))) (fun _ _ _ _ _ => pts_yes) (fun _ _ _ _ _ => (de_if (dt_cmp (do_in (room65 hr)) (de_var 1) (de_tup (da_cons (de_int) (da_cons (de_int) (da_cons (de_int) (da_cons (de_int) (da_nil))))))) (de_var 2) (de_bin do_sub (de_int) (de_var 2)))))) (da_nil)))))
/-! euler_number -/
theorem sc_euler_number : FnScope ["body"] ["body"] (defScope (topS 40)) := ⟨rfl, rfl, rfl, by decide +kernel, rfl, by decide +kernel, by decide +kernel⟩
theorem ok_euler_number {f : Addr} {fd : FuncData} (c_check_complex : Cal P w K mg base 4 "check_complex" 1 o_check_complex) (c_euler_by : Cal P w K mg base 6 "euler_by" 1 o_euler_by) (D : FunD K "euler_number" "euler_number" (defArgs (topS 40)) (defBody (topS 40)) (defScope (topS 40)) [] [] f fd) (m : mg "euler_number" = some (.ref f)) : Cal P w K mg base 7 "euler_number" 1 o_euler_number :=
  cal_of D m sc_euler_number rfl defD_run (fun _ _ _ _ _ _ us hl => match us, hl with | [_], _ => rfl) fun cdv A outer s H E hr => by
    have nd := sc_euler_number.nd
    exact (ses_cons (se_drop (de_cal c_check_complex hr (by decide) (da_cons (de_var 0) (da_nil)) (l_cons_len (l_nil_len)))) (ses_one (se_ret (de_cal c_euler_by hr (by decide) (da_cons (de_var 0) (da_nil)) (l_cons_len (l_nil_len))))))
/-! skeleton -/
theorem sc_skeleton : FnScope ["body", "dimension", "face"] ["body", "dimension"] (defScope (topS 41)) := ⟨rfl, rfl, rfl, by decide +kernel, rfl, by decide +kernel, by decide +kernel⟩
theorem ok_skeleton {f : Addr} {fd : FuncData} (m_len : mg "len" = none) (c_check_complex : Cal P w K mg base 4 "check_complex" 1 o_check_complex) (c_check_dimension : Cal P w K mg base 2 "check_dimension" 1 o_check_dimension) (c_checked : Cal P w K mg base 1 "checked" 1 o_checked) (c_complex_of : Cal P w K mg base 2 "complex_of" 2 o_complex_of) (c_faces_by : Cal P w K mg base 3 "faces_by" 1 o_faces_by) (c_many_in : Cal P w K mg base 1 "many_in" 1 o_many_in) (D : FunD K "skeleton" "skeleton" (defArgs (topS 41)) (defBody (topS 41)) (defScope (topS 41)) [] [] f fd) (m : mg "skeleton" = some (.ref f)) : Cal P w K mg base 5 "skeleton" 2 o_skeleton :=
  cal_of D m sc_skeleton rfl defD_run (fun _ _ _ _ _ _ us hl => match us, hl with | [_, _], _ => rfl) fun cdv A outer s H E hr => by
    have nd := sc_skeleton.nd
    exact (ses_cons (se_drop (de_cal c_check_complex hr (by decide) (da_cons (de_var 0) (da_nil)) (l_cons_len (l_nil_len)))) (ses_cons (se_drop (de_cal c_check_dimension hr (by decide) (da_cons (de_var 1) (da_nil)) (l_cons_len (l_nil_len)))) (ses_one (se_ret (de_cal c_checked hr (by decide) (da_cons (de_cal c_complex_of hr (by decide) (da_cons (de_cal c_many_in hr (by decide) (da_cons (de_var 0) (da_nil)) (l_cons_len (l_nil_len))) (da_cons (de_new (dn_lc (own := [("face", 2)]) (t := (.one 2)) (di_items (de_cal c_faces_by hr (by decide) (da_cons (de_var 0) (da_nil)) (l_cons_len (l_nil_len)))) (by decide) (blkOk_by (by rfl)) nd rfl (fun _ _ _ _ _ => pg_name (i := 2) nd rfl (Or.inl rfl)) (fun _ _ _ _ _ => pts_if (dt_cmp (do_le (room64 hr)) (de_callB dc_len m_len (by decide +kernel) (da_cons (de_var 2) (da_nil))) (de_bin do_add (de_var 1) (de_int)))) (fun _ _ _ _ _ => (de_var 2)))) (da_nil))) (l_cons_len (l_cons_len (l_nil_len)))) (da_nil)) (l_cons_len (l_nil_len)))))))
/-! is_even_topped -/
theorem sc_is_even_topped : FnScope ["body", "top"] ["body"] (defScope (topS 42)) := ⟨rfl, rfl, rfl, by decide +kernel, rfl, by decide +kernel, by decide +kernel⟩
theorem ok_is_even_topped {f : Addr} {fd : FuncData} (m_all : mg "all" = none) (m_len : mg "len" = none) (c_check_complex : Cal P w K mg base 4 "check_complex" 1 o_check_complex) (D : FunD K "is_even_topped" "is_even_topped" (defArgs (topS 42)) (defBody (topS 42)) (defScope (topS 42)) [] [] f fd) (m : mg "is_even_topped" = some (.ref f)) : Cal P w K mg base 5 "is_even_topped" 1 o_is_even_topped :=
  cal_of D m sc_is_even_topped rfl defD_run (fun _ _ _ _ _ _ us hl => match us, hl with | [_], _ => rfl) fun cdv A outer s H E hr => by
    have nd := sc_is_even_topped.nd
    exact (ses_cons (se_drop (de_cal c_check_complex hr (by decide) (da_cons (de_var 0) (da_nil)) (l_cons_len (l_nil_len)))) (ses_one (se_ret (de_callB dc_all m_all (by decide +kernel) (da_cons (de_new (dn_lc (own := [("top", 1)]) (t := (.one 1)) (di_items (de_ix (de_var 0) (de_int))) (by decide) (blkOk_by (by rfl)) nd rfl (fun _ _ _ _ _ => pg_name (i := 1) nd rfl (Or.inl rfl)) (fun _ _ _ _ _ => pts_yes) (fun _ _ _ _ _ => (de_cmp (do_eq (room64 hr)) (de_callB dc_len m_len (by decide +kernel) (da_cons (de_var 1) (da_nil))) (de_callB dc_len m_len (by decide +kernel) (da_cons (de_ix (de_ix (de_var 0) (de_int)) (de_int)) (da_nil))))))) (da_nil))))))
/-! rest_of -/
theorem sc_rest_of : FnScope ["lot", "face", "point"] ["lot", "face"] (defScope (topS 43)) := ⟨rfl, rfl, rfl, by decide +kernel, rfl, by decide +kernel, by decide +kernel⟩
theorem ok_rest_of {f : Addr} {fd : FuncData} (D : FunD K "rest_of" "rest_of" (defArgs (topS 43)) (defBody (topS 43)) (defScope (topS 43)) [] [] f fd) (m : mg "rest_of" = some (.ref f)) : Cal P w K mg base 1 "rest_of" 2 o_rest_of :=
  cal_of D m sc_rest_of rfl defD_run (fun _ _ _ _ _ _ us hl => match us, hl with | [_, _], _ => rfl) fun cdv A outer s H E hr => by
    have nd := sc_rest_of.nd
    exact (ses_one (se_ret (de_new (dn_lc (own := [("point", 2)]) (t := (.one 2)) (di_items (de_var 0)) (by decide) (blkOk_by (by rfl)) nd rfl (fun _ _ _ _ _ => pg_name (i := 2) nd rfl (Or.inl rfl)) (fun _ _ _ _ _ => pts_if (dt_cmp (do_notin (room65 hr)) (de_var 2) (de_var 1))) (fun _ _ _ _ _ => (de_var 2))))))
/-! link -/
theorem sc_link : FnScope ["body", "face", "top"] ["body", "face"] (defScope (topS 44)) := ⟨rfl, rfl, rfl, by decide +kernel, rfl, by decide +kernel, by decide +kernel⟩
theorem ok_link {f : Addr} {fd : FuncData} (c_check_complex : Cal P w K mg base 4 "check_complex" 1 o_check_complex) (c_check_face : Cal P w K mg base 4 "check_face" 2 o_check_face) (c_complex_of : Cal P w K mg base 2 "complex_of" 2 o_complex_of) (c_is_within : Cal P w K mg base 1 "is_within" 2 o_is_within) (c_rest_of : Cal P w K mg base 1 "rest_of" 2 o_rest_of) (c_many_in : Cal P w K mg base 1 "many_in" 1 o_many_in) (D : FunD K "link" "link" (defArgs (topS 44)) (defBody (topS 44)) (defScope (topS 44)) [] [] f fd) (m : mg "link" = some (.ref f)) : Cal P w K mg base 5 "link" 2 o_link :=
  cal_of D m sc_link rfl defD_run (fun _ _ _ _ _ _ us hl => match us, hl with | [_, _], _ => rfl) fun cdv A outer s H E hr => by
    have nd := sc_link.nd
    exact (ses_cons (se_drop (de_cal c_check_complex hr (by decide) (da_cons (de_var 0) (da_nil)) (l_cons_len (l_nil_len)))) (ses_cons (se_drop (de_cal c_check_face hr (by decide) (da_cons (de_var 0) (da_cons (de_var 1) (da_nil))) (l_cons_len (l_cons_len (l_nil_len))))) (ses_one (se_ret (de_cal c_complex_of hr (by decide) (da_cons (de_cal c_many_in hr (by decide) (da_cons (de_var 0) (da_nil)) (l_cons_len (l_nil_len))) (da_cons (de_new (dn_lc (own := [("top", 2)]) (t := (.one 2)) (di_items (de_ix (de_var 0) (de_int))) (by decide) (blkOk_by (by rfl)) nd rfl (fun _ _ _ _ _ => pg_name (i := 2) nd rfl (Or.inl rfl)) (fun _ _ _ _ _ => pts_if (dt_val (de_cal c_is_within hr (by decide) (da_cons (de_var 1) (da_cons (de_var 2) (da_nil))) (l_cons_len (l_cons_len (l_nil_len)))))) (fun _ _ _ _ _ => (de_cal c_rest_of hr (by decide) (da_cons (de_var 2) (da_cons (de_var 1) (da_nil))) (l_cons_len (l_cons_len (l_nil_len))))))) (da_nil))) (l_cons_len (l_cons_len (l_nil_len))))))))
/-! star -/
theorem sc_star : FnScope ["body", "face", "top"] ["body", "face"] (defScope (topS 45)) := ⟨rfl, rfl, rfl, by decide +kernel, rfl, by decide +kernel, by decide +kernel⟩
theorem ok_star {f : Addr} {fd : FuncData} (c_check_complex : Cal P w K mg base 4 "check_complex" 1 o_check_complex) (c_check_face : Cal P w K mg base 4 "check_face" 2 o_check_face) (c_complex_of : Cal P w K mg base 2 "complex_of" 2 o_complex_of) (c_is_within : Cal P w K mg base 1 "is_within" 2 o_is_within) (c_many_in : Cal P w K mg base 1 "many_in" 1 o_many_in) (D : FunD K "star" "star" (defArgs (topS 45)) (defBody (topS 45)) (defScope (topS 45)) [] [] f fd) (m : mg "star" = some (.ref f)) : Cal P w K mg base 5 "star" 2 o_star :=
  cal_of D m sc_star rfl defD_run (fun _ _ _ _ _ _ us hl => match us, hl with | [_, _], _ => rfl) fun cdv A outer s H E hr => by
    have nd := sc_star.nd
    exact (ses_cons (se_drop (de_cal c_check_complex hr (by decide) (da_cons (de_var 0) (da_nil)) (l_cons_len (l_nil_len)))) (ses_cons (se_drop (de_cal c_check_face hr (by decide) (da_cons (de_var 0) (da_cons (de_var 1) (da_nil))) (l_cons_len (l_cons_len (l_nil_len))))) (ses_one (se_ret (de_cal c_complex_of hr (by decide) (da_cons (de_cal c_many_in hr (by decide) (da_cons (de_var 0) (da_nil)) (l_cons_len (l_nil_len))) (da_cons (de_new (dn_lc (own := [("top", 2)]) (t := (.one 2)) (di_items (de_ix (de_var 0) (de_int))) (by decide) (blkOk_by (by rfl)) nd rfl (fun _ _ _ _ _ => pg_name (i := 2) nd rfl (Or.inl rfl)) (fun _ _ _ _ _ => pts_if (dt_val (de_cal c_is_within hr (by decide) (da_cons (de_var 1) (da_cons (de_var 2) (da_nil))) (l_cons_len (l_cons_len (l_nil_len)))))) (fun _ _ _ _ _ => (de_var 2)))) (da_nil))) (l_cons_len (l_cons_len (l_nil_len))))))))
/-! without -/
theorem sc_without : FnScope ["body", "face", "late"] ["body", "face"] (defScope (topS 46)) := ⟨rfl, rfl, rfl, by decide +kernel, rfl, by decide +kernel, by decide +kernel⟩
theorem ok_without {f : Addr} {fd : FuncData} (c_check_complex : Cal P w K mg base 4 "check_complex" 1 o_check_complex) (c_check_face : Cal P w K mg base 4 "check_face" 2 o_check_face) (c_checked : Cal P w K mg base 1 "checked" 1 o_checked) (c_complex_of : Cal P w K mg base 2 "complex_of" 2 o_complex_of) (c_faces_by : Cal P w K mg base 3 "faces_by" 1 o_faces_by) (c_is_within : Cal P w K mg base 1 "is_within" 2 o_is_within) (c_many_in : Cal P w K mg base 1 "many_in" 1 o_many_in) (D : FunD K "without" "without" (defArgs (topS 46)) (defBody (topS 46)) (defScope (topS 46)) [] [] f fd) (m : mg "without" = some (.ref f)) : Cal P w K mg base 5 "without" 2 o_without :=
  cal_of D m sc_without rfl defD_run (fun _ _ _ _ _ _ us hl => match us, hl with | [_, _], _ => rfl) fun cdv A outer s H E hr => by
    have nd := sc_without.nd
    exact (ses_cons (se_drop (de_cal c_check_complex hr (by decide) (da_cons (de_var 0) (da_nil)) (l_cons_len (l_nil_len)))) (ses_cons (se_drop (de_cal c_check_face hr (by decide) (da_cons (de_var 0) (da_cons (de_var 1) (da_nil))) (l_cons_len (l_cons_len (l_nil_len))))) (ses_one (se_ret (de_cal c_checked hr (by decide) (da_cons (de_cal c_complex_of hr (by decide) (da_cons (de_cal c_many_in hr (by decide) (da_cons (de_var 0) (da_nil)) (l_cons_len (l_nil_len))) (da_cons (de_new (dn_lc (own := [("late", 2)]) (t := (.one 2)) (di_items (de_cal c_faces_by hr (by decide) (da_cons (de_var 0) (da_nil)) (l_cons_len (l_nil_len)))) (by decide) (blkOk_by (by rfl)) nd rfl (fun _ _ _ _ _ => pg_name (i := 2) nd rfl (Or.inl rfl)) (fun _ _ _ _ _ => pts_if (dt_not (dt_val (de_cal c_is_within hr (by decide) (da_cons (de_var 1) (da_cons (de_var 2) (da_nil))) (l_cons_len (l_cons_len (l_nil_len))))))) (fun _ _ _ _ _ => (de_var 2)))) (da_nil))) (l_cons_len (l_cons_len (l_nil_len)))) (da_nil)) (l_cons_len (l_nil_len)))))))
/-! shifted -/
theorem sc_shifted : FnScope ["lot", "many", "point"] ["lot", "many"] (defScope (topS 47)) := ⟨rfl, rfl, rfl, by decide +kernel, rfl, by decide +kernel, by decide +kernel⟩
theorem ok_shifted {f : Addr} {fd : FuncData} (D : FunD K "shifted" "shifted" (defArgs (topS 47)) (defBody (topS 47)) (defScope (topS 47)) [] [] f fd) (m : mg "shifted" = some (.ref f)) : Cal P w K mg base 1 "shifted" 2 o_shifted :=
  cal_of D m sc_shifted rfl defD_run (fun _ _ _ _ _ _ us hl => match us, hl with | [_, _], _ => rfl) fun cdv A outer s H E hr => by
    have nd := sc_shifted.nd
    exact (ses_one (se_ret (de_new (dn_lc (own := [("point", 2)]) (t := (.one 2)) (di_items (de_var 0)) (by decide) (blkOk_by (by rfl)) nd rfl (fun _ _ _ _ _ => pg_name (i := 2) nd rfl (Or.inl rfl)) (fun _ _ _ _ _ => pts_yes) (fun _ _ _ _ _ => (de_bin do_add (de_var 2) (de_var 1)))))))
/-! check_room -/
theorem sc_check_room : FnScope ["many"] ["many"] (defScope (topS 48)) := ⟨rfl, rfl, rfl, by decide +kernel, rfl, by decide +kernel, by decide +kernel⟩
theorem ok_check_room {f : Addr} {fd : FuncData} {t_MOST_POINTS : Tok} (g_MOST_POINTS : mg "MOST_POINTS" = some (.int 7 t_MOST_POINTS)) (D : FunD K "check_room" "check_room" (defArgs (topS 48)) (defBody (topS 48)) (defScope (topS 48)) [] [] f fd) (m : mg "check_room" = some (.ref f)) : Cal P w K mg base 1 "check_room" 1 o_check_room :=
  cal_of D m sc_check_room rfl defD_run (fun _ _ _ _ _ _ us hl => match us, hl with | [_], _ => rfl) fun cdv A outer s H E hr => by
    have nd := sc_check_room.nd
    exact (ses_one (se_if (dt_cmp (do_gt (room64 hr)) (de_var 0) (de_gint rfl g_MOST_POINTS)) (ses_one (se_bad)) (ses_nil)))
/-! joined_by -/
theorem sc_joined_by : FnScope ["body", "many", "tops", "lots", "whole", "top", "other"] ["body", "many", "tops"] (defScope (topS 49)) := ⟨rfl, rfl, rfl, by decide +kernel, rfl, by decide +kernel, by decide +kernel⟩
theorem ok_joined_by {f : Addr} {fd : FuncData} (m_int : mg "int" = none) (c_many_in : Cal P w K mg base 1 "many_in" 1 o_many_in) (c_shifted : Cal P w K mg base 1 "shifted" 2 o_shifted) (c_checked : Cal P w K mg base 1 "checked" 1 o_checked) (c_complex_of : Cal P w K mg base 2 "complex_of" 2 o_complex_of) (D : FunD K "joined_by" "joined_by" (defArgs (topS 49)) (defBody (topS 49)) (defScope (topS 49)) [] [] f fd) (m : mg "joined_by" = some (.ref f)) : Cal P w K mg base 3 "joined_by" 3 o_joined_by :=
  cal_of D m sc_joined_by rfl defD_run (fun _ _ _ _ _ _ us hl => match us, hl with | [_, _, _], _ => rfl) fun cdv A outer s H E hr => by
    have nd := sc_joined_by.nd
    exact (ses_cons (se_par_ii (i := 3) (j := 4) nd (de_lst (da_nil)) (de_bin do_add (de_cal c_many_in hr (by decide) (da_cons (de_var 0) (da_nil)) (l_cons_len (l_nil_len))) (de_var 1))) (ses_cons (se_for (t := (.one 5)) PassesOwn.never (di_items (de_bin do_add (de_ix (de_var 0) (de_int)) (de_bin do_mult (de_lst (da_cons (de_lst (da_nil)) (da_nil))) (de_callT dc_int m_int (by decide +kernel) (da_cons (de_cmp (do_eq (room64 hr)) (de_ix (de_var 0) (de_int)) (de_lst (da_nil))) (da_nil)))))) (pg_name (i := 5) nd rfl (Or.inr rfl)) (ses_one (se_asg (i := 3) nd (de_bin do_add (de_var 3) (de_new (dn_lc (own := [("other", 6)]) (t := (.one 6)) (di_items (de_bin do_add (de_var 2) (de_bin do_mult (de_lst (da_cons (de_lst (da_nil)) (da_nil))) (de_callT dc_int m_int (by decide +kernel) (da_cons (de_cmp (do_eq (room64 hr)) (de_var 2) (de_lst (da_nil))) (da_nil)))))) (by decide) (blkOk_by (by rfl)) nd rfl (fun _ _ _ _ _ => pg_name (i := 6) nd rfl (Or.inl rfl)) (fun _ _ _ _ _ => pts_yes) (fun _ _ _ _ _ => (de_bin do_add (de_var 5) (de_cal c_shifted hr (by decide) (da_cons (de_var 6) (da_cons (de_cal c_many_in hr (by decide) (da_cons (de_var 0) (da_nil)) (l_cons_len (l_nil_len))) (da_nil))) (l_cons_len (l_cons_len (l_nil_len)))))))))))) (ses_one (se_ret (de_cal c_checked hr (by decide) (da_cons (de_cal c_complex_of hr (by decide) (da_cons (de_var 4) (da_cons (de_var 3) (da_nil))) (l_cons_len (l_cons_len (l_nil_len)))) (da_nil)) (l_cons_len (l_nil_len)))))))
/-! join -/
theorem sc_join : FnScope ["body", "other"] ["body", "other"] (defScope (topS 50)) := ⟨rfl, rfl, rfl, by decide +kernel, rfl, by decide +kernel, by decide +kernel⟩
theorem ok_join {f : Addr} {fd : FuncData} (c_check_complex : Cal P w K mg base 4 "check_complex" 1 o_check_complex) (c_check_room : Cal P w K mg base 1 "check_room" 1 o_check_room) (c_many_in : Cal P w K mg base 1 "many_in" 1 o_many_in) (c_joined_by : Cal P w K mg base 3 "joined_by" 3 o_joined_by) (c_tops_in : Cal P w K mg base 1 "tops_in" 1 o_tops_in) (D : FunD K "join" "join" (defArgs (topS 50)) (defBody (topS 50)) (defScope (topS 50)) [] [] f fd) (m : mg "join" = some (.ref f)) : Cal P w K mg base 5 "join" 2 o_join :=
  cal_of D m sc_join rfl defD_run (fun _ _ _ _ _ _ us hl => match us, hl with | [_, _], _ => rfl) fun cdv A outer s H E hr => by
    have nd := sc_join.nd
    exact (ses_cons (se_drop (de_cal c_check_complex hr (by decide) (da_cons (de_var 0) (da_nil)) (l_cons_len (l_nil_len)))) (ses_cons (se_drop (de_cal c_check_complex hr (by decide) (da_cons (de_var 1) (da_nil)) (l_cons_len (l_nil_len)))) (ses_cons (se_drop (de_cal c_check_room hr (by decide) (da_cons (de_bin do_add (de_cal c_many_in hr (by decide) (da_cons (de_var 0) (da_nil)) (l_cons_len (l_nil_len))) (de_cal c_many_in hr (by decide) (da_cons (de_var 1) (da_nil)) (l_cons_len (l_nil_len)))) (da_nil)) (l_cons_len (l_nil_len)))) (ses_one (se_ret (de_cal c_joined_by hr (by decide) (da_cons (de_var 0) (da_cons (de_cal c_many_in hr (by decide) (da_cons (de_var 1) (da_nil)) (l_cons_len (l_nil_len))) (da_cons (de_cal c_tops_in hr (by decide) (da_cons (de_var 1) (da_nil)) (l_cons_len (l_nil_len))) (da_nil)))) (l_cons_len (l_cons_len (l_cons_len (l_nil_len))))))))))
/-! cone -/
theorem sc_cone : FnScope ["body"] ["body"] (defScope (topS 51)) := ⟨rfl, rfl, rfl, by decide +kernel, rfl, by decide +kernel, by decide +kernel⟩
theorem ok_cone {f : Addr} {fd : FuncData} (c_check_complex : Cal P w K mg base 4 "check_complex" 1 o_check_complex) (c_check_room : Cal P w K mg base 1 "check_room" 1 o_check_room) (c_many_in : Cal P w K mg base 1 "many_in" 1 o_many_in) (c_joined_by : Cal P w K mg base 3 "joined_by" 3 o_joined_by) (D : FunD K "cone" "cone" (defArgs (topS 51)) (defBody (topS 51)) (defScope (topS 51)) [] [] f fd) (m : mg "cone" = some (.ref f)) : Cal P w K mg base 5 "cone" 1 o_cone :=
  cal_of D m sc_cone rfl defD_run (fun _ _ _ _ _ _ us hl => match us, hl with | [_], _ => rfl) fun cdv A outer s H E hr => by
    have nd := sc_cone.nd
    exact (ses_cons (se_drop (de_cal c_check_complex hr (by decide) (da_cons (de_var 0) (da_nil)) (l_cons_len (l_nil_len)))) (ses_cons (se_drop (de_cal c_check_room hr (by decide) (da_cons (de_bin do_add (de_cal c_many_in hr (by decide) (da_cons (de_var 0) (da_nil)) (l_cons_len (l_nil_len))) (de_int)) (da_nil)) (l_cons_len (l_nil_len)))) (ses_one (se_ret (de_cal c_joined_by hr (by decide) (da_cons (de_var 0) (da_cons (de_int) (da_cons (de_lst (da_cons (de_lst (da_cons (de_int) (da_nil))) (da_nil))) (da_nil)))) (l_cons_len (l_cons_len (l_cons_len (l_nil_len)))))))))
/-! hung -/
theorem sc_hung : FnScope ["body"] ["body"] (defScope (topS 52)) := ⟨rfl, rfl, rfl, by decide +kernel, rfl, by decide +kernel, by decide +kernel⟩
theorem ok_hung {f : Addr} {fd : FuncData} (c_check_complex : Cal P w K mg base 4 "check_complex" 1 o_check_complex) (c_check_room : Cal P w K mg base 1 "check_room" 1 o_check_room) (c_many_in : Cal P w K mg base 1 "many_in" 1 o_many_in) (c_joined_by : Cal P w K mg base 3 "joined_by" 3 o_joined_by) (D : FunD K "hung" "hung" (defArgs (topS 52)) (defBody (topS 52)) (defScope (topS 52)) [] [] f fd) (m : mg "hung" = some (.ref f)) : Cal P w K mg base 5 "hung" 1 o_hung :=
  cal_of D m sc_hung rfl defD_run (fun _ _ _ _ _ _ us hl => match us, hl with | [_], _ => rfl) fun cdv A outer s H E hr => by
    have nd := sc_hung.nd
    exact (ses_cons (se_drop (de_cal c_check_complex hr (by decide) (da_cons (de_var 0) (da_nil)) (l_cons_len (l_nil_len)))) (ses_cons (se_drop (de_cal c_check_room hr (by decide) (da_cons (de_bin do_add (de_cal c_many_in hr (by decide) (da_cons (de_var 0) (da_nil)) (l_cons_len (l_nil_len))) (de_int)) (da_nil)) (l_cons_len (l_nil_len)))) (ses_one (se_ret (de_cal c_joined_by hr (by decide) (da_cons (de_var 0) (da_cons (de_int) (da_cons (de_lst (da_cons (de_lst (da_cons (de_int) (da_nil))) (da_cons (de_lst (da_cons (de_int) (da_nil))) (da_nil)))) (da_nil)))) (l_cons_len (l_cons_len (l_cons_len (l_nil_len)))))))))
/-! check_alike -/
theorem sc_check_alike : FnScope ["body", "other"] ["body", "other"] (defScope (topS 53)) := ⟨rfl, rfl, rfl, by decide +kernel, rfl, by decide +kernel, by decide +kernel⟩
theorem ok_check_alike {f : Addr} {fd : FuncData} (c_check_complex : Cal P w K mg base 4 "check_complex" 1 o_check_complex) (c_many_in : Cal P w K mg base 1 "many_in" 1 o_many_in) (D : FunD K "check_alike" "check_alike" (defArgs (topS 53)) (defBody (topS 53)) (defScope (topS 53)) [] [] f fd) (m : mg "check_alike" = some (.ref f)) : Cal P w K mg base 5 "check_alike" 2 o_check_alike :=
  cal_of D m sc_check_alike rfl defD_run (fun _ _ _ _ _ _ us hl => match us, hl with | [_, _], _ => rfl) fun cdv A outer s H E hr => by
    have nd := sc_check_alike.nd
    exact (ses_cons (se_drop (de_cal c_check_complex hr (by decide) (da_cons (de_var 0) (da_nil)) (l_cons_len (l_nil_len)))) (ses_cons (se_drop (de_cal c_check_complex hr (by decide) (da_cons (de_var 1) (da_nil)) (l_cons_len (l_nil_len)))) (ses_one (se_if (dt_cmp (do_ne (room64 hr)) (de_cal c_many_in hr (by decide) (da_cons (de_var 0) (da_nil)) (l_cons_len (l_nil_len))) (de_cal c_many_in hr (by decide) (da_cons (de_var 1) (da_nil)) (l_cons_len (l_nil_len)))) (ses_one (se_bad)) (ses_nil)))))
/-! union -/
theorem sc_union : FnScope ["body", "other"] ["body", "other"] (defScope (topS 54)) := ⟨rfl, rfl, rfl, by decide +kernel, rfl, by decide +kernel, by decide +kernel⟩
theorem ok_union {f : Addr} {fd : FuncData} (c_check_alike : Cal P w K mg base 5 "check_alike" 2 o_check_alike) (c_checked : Cal P w K mg base 1 "checked" 1 o_checked) (c_complex_of : Cal P w K mg base 2 "complex_of" 2 o_complex_of) (c_tops_in : Cal P w K mg base 1 "tops_in" 1 o_tops_in) (c_many_in : Cal P w K mg base 1 "many_in" 1 o_many_in) (D : FunD K "union" "union" (defArgs (topS 54)) (defBody (topS 54)) (defScope (topS 54)) [] [] f fd) (m : mg "union" = some (.ref f)) : Cal P w K mg base 6 "union" 2 o_union :=
  cal_of D m sc_union rfl defD_run (fun _ _ _ _ _ _ us hl => match us, hl with | [_, _], _ => rfl) fun cdv A outer s H E hr => by
    have nd := sc_union.nd
    exact (ses_cons (se_drop (de_cal c_check_alike hr (by decide) (da_cons (de_var 0) (da_cons (de_var 1) (da_nil))) (l_cons_len (l_cons_len (l_nil_len))))) (ses_one (se_ret (de_cal c_checked hr (by decide) (da_cons (de_cal c_complex_of hr (by decide) (da_cons (de_cal c_many_in hr (by decide) (da_cons (de_var 0) (da_nil)) (l_cons_len (l_nil_len))) (da_cons (de_bin do_add (de_cal c_tops_in hr (by decide) (da_cons (de_var 0) (da_nil)) (l_cons_len (l_nil_len))) (de_cal c_tops_in hr (by decide) (da_cons (de_var 1) (da_nil)) (l_cons_len (l_nil_len)))) (da_nil))) (l_cons_len (l_cons_len (l_nil_len)))) (da_nil)) (l_cons_len (l_nil_len))))))
/-! meet -/
theorem sc_meet : FnScope ["body", "other", "face"] ["body", "other"] (defScope (topS 55)) := ⟨rfl, rfl, rfl, by decide +kernel, rfl, by decide +kernel, by decide +kernel⟩
theorem ok_meet {f : Addr} {fd : FuncData} (c_check_alike : Cal P w K mg base 5 "check_alike" 2 o_check_alike) (c_checked : Cal P w K mg base 1 "checked" 1 o_checked) (c_complex_of : Cal P w K mg base 2 "complex_of" 2 o_complex_of) (c_faces_by : Cal P w K mg base 3 "faces_by" 1 o_faces_by) (c_has_face : Cal P w K mg base 2 "has_face" 2 o_has_face) (c_many_in : Cal P w K mg base 1 "many_in" 1 o_many_in) (D : FunD K "meet" "meet" (defArgs (topS 55)) (defBody (topS 55)) (defScope (topS 55)) [] [] f fd) (m : mg "meet" = some (.ref f)) : Cal P w K mg base 6 "meet" 2 o_meet :=
  cal_of D m sc_meet rfl defD_run (fun _ _ _ _ _ _ us hl => match us, hl with | [_, _], _ => rfl) fun cdv A outer s H E hr => by
    have nd := sc_meet.nd
    exact (ses_cons (se_drop (de_cal c_check_alike hr (by decide) (da_cons (de_var 0) (da_cons (de_var 1) (da_nil))) (l_cons_len (l_cons_len (l_nil_len))))) (ses_one (se_ret (de_cal c_checked hr (by decide) (da_cons (de_cal c_complex_of hr (by decide) (da_cons (de_cal c_many_in hr (by decide) (da_cons (de_var 0) (da_nil)) (l_cons_len (l_nil_len))) (da_cons (de_new (dn_lc (own := [("face", 2)]) (t := (.one 2)) (di_items (de_cal c_faces_by hr (by decide) (da_cons (de_var 0) (da_nil)) (l_cons_len (l_nil_len)))) (by decide) (blkOk_by (by rfl)) nd rfl (fun _ _ _ _ _ => pg_name (i := 2) nd rfl (Or.inl rfl)) (fun _ _ _ _ _ => pts_if (dt_val (de_cal c_has_face hr (by decide) (da_cons (de_var 1) (da_cons (de_var 2) (da_nil))) (l_cons_len (l_cons_len (l_nil_len)))))) (fun _ _ _ _ _ => (de_var 2)))) (da_nil))) (l_cons_len (l_cons_len (l_nil_len)))) (da_nil)) (l_cons_len (l_nil_len))))))
/-! least_missing -/
theorem sc_least_missing : FnScope ["body", "found", "lot", "other"] ["body"] (defScope (topS 56)) := ⟨rfl, rfl, rfl, by decide +kernel, rfl, by decide +kernel, by decide +kernel⟩
theorem ok_least_missing {f : Addr} {fd : FuncData} (m_any : mg "any" = none) (c_check_complex : Cal P w K mg base 4 "check_complex" 1 o_check_complex) (c_lots_of : Cal P w K mg base 1 "lots_of" 1 o_lots_of) (c_many_in : Cal P w K mg base 1 "many_in" 1 o_many_in) (c_is_within : Cal P w K mg base 1 "is_within" 2 o_is_within) (c_has_face : Cal P w K mg base 2 "has_face" 2 o_has_face) (D : FunD K "least_missing" "least_missing" (defArgs (topS 56)) (defBody (topS 56)) (defScope (topS 56)) [] [] f fd) (m : mg "least_missing" = some (.ref f)) : Cal P w K mg base 5 "least_missing" 1 o_least_missing :=
  cal_of D m sc_least_missing rfl defD_run (fun _ _ _ _ _ _ us hl => match us, hl with | [_], _ => rfl) fun cdv A outer s H E hr => by
    have nd := sc_least_missing.nd
    exact (ses_cons (se_drop (de_cal c_check_complex hr (by decide) (da_cons (de_var 0) (da_nil)) (l_cons_len (l_nil_len)))) (ses_cons (se_own (i := 1) nd (dn_lst (da_nil))) (ses_cons (se_for (t := (.one 2)) PassesOwn.never (di_items (de_cal c_lots_of hr (by decide) (da_cons (de_cal c_many_in hr (by decide) (da_cons (de_var 0) (da_nil)) (l_cons_len (l_nil_len))) (da_nil)) (l_cons_len (l_nil_len)))) (pg_name (i := 2) nd rfl (Or.inr rfl)) (ses_one (se_if (DW.dt (dw_and (dt_cmp (do_ne (room64 hr)) (de_var 2) (de_lst (da_nil))) (dw_and (dt_not (dt_val (de_cal c_has_face hr (by decide) (da_cons (de_var 0) (da_cons (de_var 2) (da_nil))) (l_cons_len (l_cons_len (l_nil_len)))))) (dw_and1 (dt_not (dt_sc (dt_val (de_callB dc_any m_any (by decide +kernel) (da_cons (de_new (dn_lc (own := [("other", 3)]) (t := (.one 3)) (di_items (de_var 1)) (by decide) (blkOk_by (by rfl)) nd rfl (fun _ _ _ _ _ => pg_name (i := 3) nd rfl (Or.inl rfl)) (fun _ _ _ _ _ => pts_yes) (fun _ _ _ _ _ => (de_cal c_is_within hr (by decide) (da_cons (de_var 3) (da_cons (de_var 2) (da_nil))) (l_cons_len (l_cons_len (l_nil_len))))))) (da_nil)))))))))) (ses_one (se_app (pe_bm PySem.F.plainAttrs_list PySem.F.slot_list_append PySem.F.type_list_append mt_append (pv 1) (pa_cons (de_var 2) pa_nil)))) (ses_nil)))) (ses_one (se_reto)))))
/-! complex_barring -/
theorem sc_complex_barring : FnScope ["many", "lots", "kept", "lot", "other"] ["many", "lots"] (defScope (topS 57)) := ⟨rfl, rfl, rfl, by decide +kernel, rfl, by decide +kernel, by decide +kernel⟩
theorem ok_complex_barring {f : Addr} {fd : FuncData} (m_any : mg "any" = none) (c_check_many : Cal P w K mg base 3 "check_many" 1 o_check_many) (c_check_lots : Cal P w K mg base 3 "check_lots" 2 o_check_lots) (c_lots_of : Cal P w K mg base 1 "lots_of" 1 o_lots_of) (c_is_within : Cal P w K mg base 1 "is_within" 2 o_is_within) (c_checked : Cal P w K mg base 1 "checked" 1 o_checked) (c_complex_of : Cal P w K mg base 2 "complex_of" 2 o_complex_of) (D : FunD K "complex_barring" "complex_barring" (defArgs (topS 57)) (defBody (topS 57)) (defScope (topS 57)) [] [] f fd) (m : mg "complex_barring" = some (.ref f)) : Cal P w K mg base 4 "complex_barring" 2 o_complex_barring :=
  cal_of D m sc_complex_barring rfl defD_run (fun _ _ _ _ _ _ us hl => match us, hl with | [_, _], _ => rfl) fun cdv A outer s H E hr => by
    have nd := sc_complex_barring.nd
    exact (ses_cons (se_drop (de_cal c_check_many hr (by decide) (da_cons (de_var 0) (da_nil)) (l_cons_len (l_nil_len)))) (ses_cons (se_drop (de_cal c_check_lots hr (by decide) (da_cons (de_var 0) (da_cons (de_var 1) (da_nil))) (l_cons_len (l_cons_len (l_nil_len))))) (ses_cons (se_if (dt_cmp (do_in (room65 hr)) (de_lst (da_nil)) (de_var 1)) (ses_one (se_bad)) (ses_nil)) (ses_cons (se_asgLc (i := 2) (own := [("lot", 3)]) (t := (.one 3)) nd (di_items (de_cal c_lots_of hr (by decide) (da_cons (de_var 0) (da_nil)) (l_cons_len (l_nil_len)))) (by decide) (blkOk_by (by rfl)) (fun _ _ _ _ _ => pg_name (i := 3) nd rfl (Or.inr rfl)) (fun _ _ _ _ _ => pts_if (dt_not (dt_val (de_callB dc_any m_any (by decide +kernel) (da_cons (de_new (dn_lc (own := [("other", 4)]) (t := (.one 4)) (di_items (de_var 1)) (by decide) (blkOk_by (by rfl)) nd rfl (fun _ _ _ _ _ => pg_name (i := 4) nd rfl (Or.inl rfl)) (fun _ _ _ _ _ => pts_yes) (fun _ _ _ _ _ => (de_cal c_is_within hr (by decide) (da_cons (de_var 4) (da_cons (de_var 3) (da_nil))) (l_cons_len (l_cons_len (l_nil_len))))))) (da_nil)))))) (fun _ _ _ _ _ => (de_var 3)) (sw_true rfl rfl rfl (by decide +kernel))) (ses_one (se_ret (de_cal c_checked hr (by decide) (da_cons (de_cal c_complex_of hr (by decide) (da_cons (de_var 0) (da_cons (de_var 2) (da_nil))) (l_cons_len (l_cons_len (l_nil_len)))) (da_nil)) (l_cons_len (l_nil_len)))))))))
/-! is_flag -/
theorem sc_is_flag : FnScope ["body", "lot"] ["body"] (defScope (topS 58)) := ⟨rfl, rfl, rfl, by decide +kernel, rfl, by decide +kernel, by decide +kernel⟩
theorem ok_is_flag {f : Addr} {fd : FuncData} (m_all : mg "all" = none) (m_len : mg "len" = none) (c_least_missing : Cal P w K mg base 5 "least_missing" 1 o_least_missing) (D : FunD K "is_flag" "is_flag" (defArgs (topS 58)) (defBody (topS 58)) (defScope (topS 58)) [] [] f fd) (m : mg "is_flag" = some (.ref f)) : Cal P w K mg base 6 "is_flag" 1 o_is_flag :=
  cal_of D m sc_is_flag rfl defD_run (fun _ _ _ _ _ _ us hl => match us, hl with | [_], _ => rfl) fun cdv A outer s H E hr => by
    have nd := sc_is_flag.nd
    exact (ses_one (se_ret (de_callB dc_all m_all (by decide +kernel) (da_cons (de_new (dn_lc (own := [("lot", 1)]) (t := (.one 1)) (di_items (de_cal c_least_missing hr (by decide) (da_cons (de_var 0) (da_nil)) (l_cons_len (l_nil_len)))) (by decide) (blkOk_by (by rfl)) nd rfl (fun _ _ _ _ _ => pg_name (i := 1) nd rfl (Or.inl rfl)) (fun _ _ _ _ _ => pts_yes) (fun _ _ _ _ _ => (de_cmp (do_le (room64 hr)) (de_callB dc_len m_len (by decide +kernel) (da_cons (de_var 1) (da_nil))) (de_int))))) (da_nil)))))
/-! renamed -/
theorem sc_renamed : FnScope ["body", "names", "top", "name", "point"] ["body", "names"] (defScope (topS 59)) := ⟨rfl, rfl, rfl, by decide +kernel, rfl, by decide +kernel, by decide +kernel⟩
theorem ok_renamed {f : Addr} {fd : FuncData} (m_all : mg "all" = none) (m_isinstance : mg "isinstance" = none) (m_list : mg "list" = none) (m_range : mg "range" = none) (m_sorted : mg "sorted" = none) (c_check_complex : Cal P w K mg base 4 "check_complex" 1 o_check_complex) (c_is_whole : Cal P w K mg base 1 "is_whole" 1 o_is_whole) (c_many_in : Cal P w K mg base 1 "many_in" 1 o_many_in) (D : FunD K "renamed" "renamed" (defArgs (topS 59)) (defBody (topS 59)) (defScope (topS 59)) [] [] f fd) (m : mg "renamed" = some (.ref f)) : Cal P w K mg base 5 "renamed" 2 o_renamed :=
  cal_of D m sc_renamed rfl defD_run (fun _ _ _ _ _ _ us hl => match us, hl with | [_, _], _ => rfl) fun cdv A outer s H E hr => by
    have nd := sc_renamed.nd
    exact (ses_cons (se_drop (de_cal c_check_complex hr (by decide) (da_cons (de_var 0) (da_nil)) (l_cons_len (l_nil_len)))) (ses_cons (se_if (DW.dt (dw_or (dt_not (dt_val (de_isi "list" (by decide +kernel) (de_var 1) m_isinstance m_list (by decide +kernel)))) (dw_or1 (dt_not (dt_val (de_callB dc_all m_all (by decide +kernel) (da_cons (de_new (dn_lc (own := [("name", 3)]) (t := (.one 3)) (di_items (de_var 1)) (by decide) (blkOk_by (by rfl)) nd rfl (fun _ _ _ _ _ => pg_name (i := 3) nd rfl (Or.inl rfl)) (fun _ _ _ _ _ => pts_yes) (fun _ _ _ _ _ => (de_cal c_is_whole hr (by decide) (da_cons (de_var 3) (da_nil)) (l_cons_len (l_nil_len)))))) (da_nil)))))))) (ses_one (se_bad)) (ses_nil)) (ses_cons (se_if (dt_cmp (do_ne (room64 hr)) (de_new (dn_callB (dcn_sorted (room64 hr)) m_sorted (by decide +kernel) (da_cons (de_var 1) (da_nil)))) (de_new (dn_listRg (prgD1 m_range (de_cal c_many_in hr (by decide) (da_cons (de_var 0) (da_nil)) (l_cons_len (l_nil_len)))) m_list))) (ses_one (se_bad)) (ses_nil)) (ses_one (se_ret (de_tup (da_cons (de_str) (da_cons (de_cal c_many_in hr (by decide) (da_cons (de_var 0) (da_nil)) (l_cons_len (l_nil_len))) (da_cons (de_new (dn_callB (dcn_sorted (room64 hr)) m_sorted (by decide +kernel) (da_cons (de_new (dn_lc (own := [("top", 2)]) (t := (.one 2)) (di_items (de_ix (de_var 0) (de_int))) (by decide) (blkOk_by (by rfl)) nd rfl (fun _ _ _ _ _ => pg_name (i := 2) nd rfl (Or.inl rfl)) (fun _ _ _ _ _ => pts_yes) (fun _ _ _ _ _ => (de_new (dn_callB (dcn_sorted (room64 hr)) m_sorted (by decide +kernel) (da_cons (de_new (dn_lc (own := [("point", 4)]) (t := (.one 4)) (di_items (de_var 2)) (by decide) (blkOk_by (by rfl)) nd rfl (fun _ _ _ _ _ => pg_name (i := 4) nd rfl (Or.inl rfl)) (fun _ _ _ _ _ => pts_yes) (fun _ _ _ _ _ => (de_ix (de_var 1) (de_var 4))))) (da_nil))))))) (da_nil)))) (da_nil))))))))))
/-! ball -/
theorem sc_ball : FnScope ["many"] ["many"] (defScope (topS 60)) := ⟨rfl, rfl, rfl, by decide +kernel, rfl, by decide +kernel, by decide +kernel⟩
theorem ok_ball {f : Addr} {fd : FuncData} (m_list : mg "list" = none) (m_range : mg "range" = none) (c_check_many : Cal P w K mg base 3 "check_many" 1 o_check_many) (D : FunD K "ball" "ball" (defArgs (topS 60)) (defBody (topS 60)) (defScope (topS 60)) [] [] f fd) (m : mg "ball" = some (.ref f)) : Cal P w K mg base 4 "ball" 1 o_ball :=
  cal_of D m sc_ball rfl defD_run (fun _ _ _ _ _ _ us hl => match us, hl with | [_], _ => rfl) fun cdv A outer s H E hr => by
    have nd := sc_ball.nd
    exact (ses_cons (se_drop (de_cal c_check_many hr (by decide) (da_cons (de_var 0) (da_nil)) (l_cons_len (l_nil_len)))) (ses_one (se_ret (de_tup (da_cons (de_str) (da_cons (de_var 0) (da_cons (de_lst (da_cons (de_new (dn_listRg (prgD1 m_range (de_var 0)) m_list)) (da_nil))) (da_nil))))))))
/-! sphere -/
theorem sc_sphere : FnScope ["many", "lot"] ["many"] (defScope (topS 61)) := ⟨rfl, rfl, rfl, by decide +kernel, rfl, by decide +kernel, by decide +kernel⟩
theorem ok_sphere {f : Addr} {fd : FuncData} (m_len : mg "len" = none) (c_check_many : Cal P w K mg base 3 "check_many" 1 o_check_many) (c_complex_of : Cal P w K mg base 2 "complex_of" 2 o_complex_of) (c_lots_of : Cal P w K mg base 1 "lots_of" 1 o_lots_of) (D : FunD K "sphere" "sphere" (defArgs (topS 61)) (defBody (topS 61)) (defScope (topS 61)) [] [] f fd) (m : mg "sphere" = some (.ref f)) : Cal P w K mg base 4 "sphere" 1 o_sphere :=
  cal_of D m sc_sphere rfl defD_run (fun _ _ _ _ _ _ us hl => match us, hl with | [_], _ => rfl) fun cdv A outer s H E hr => by
    have nd := sc_sphere.nd
    exact (ses_cons (se_drop (de_cal c_check_many hr (by decide) (da_cons (de_var 0) (da_nil)) (l_cons_len (l_nil_len)))) (ses_one (se_ret (de_cal c_complex_of hr (by decide) (da_cons (de_var 0) (da_cons (de_new (dn_lc (own := [("lot", 1)]) (t := (.one 1)) (di_items (de_cal c_lots_of hr (by decide) (da_cons (de_var 0) (da_nil)) (l_cons_len (l_nil_len)))) (by decide) (blkOk_by (by rfl)) nd rfl (fun _ _ _ _ _ => pg_name (i := 1) nd rfl (Or.inl rfl)) (fun _ _ _ _ _ => pts_if (dt_cmp (do_eq (room64 hr)) (de_callB dc_len m_len (by decide +kernel) (da_cons (de_var 1) (da_nil))) (de_bin do_sub (de_var 0) (de_int)))) (fun _ _ _ _ _ => (de_var 1)))) (da_nil))) (l_cons_len (l_cons_len (l_nil_len)))))))
/-! _law_hash -/
theorem sc__law_hash : FnScope ["seed", "index", "mixed"] ["seed", "index"] (defScope (topS 63)) := ⟨rfl, rfl, rfl, by decide +kernel, rfl, by decide +kernel, by decide +kernel⟩
theorem ok__law_hash {f : Addr} {fd : FuncData} (m_int : mg "int" = none) (D : FunD K "_law_hash" "_law_hash" (defArgs (topS 63)) (defBody (topS 63)) (defScope (topS 63)) [] [] f fd) (m : mg "_law_hash" = some (.ref f)) : Cal P w K mg base 1 "_law_hash" 2 o__law_hash :=
  cal_of D m sc__law_hash rfl defD_run (fun _ _ _ _ _ _ us hl => match us, hl with | [_, _], _ => rfl) fun cdv A outer s H E hr => by
    have nd := sc__law_hash.nd
    exact (ses_cons (se_asg (i := 2) nd (de_bin do_mod (de_callT dc_int m_int (by decide +kernel) (da_cons (de_bin do_add (de_bin do_add (de_bin do_mult (de_var 0) (de_int)) (de_bin do_mult (de_var 1) (de_int))) (de_int)) (da_nil))) (de_int))) (ses_cons (se_asg (i := 2) nd (de_bin do_mod (de_callT dc_int m_int (by decide +kernel) (da_cons (de_bin do_add (de_bin do_add (de_bin do_mult (de_var 2) (de_var 2)) (de_bin do_mult (de_int) (de_var 1))) (de_int)) (da_nil))) (de_int))) (ses_one (se_ret (de_bin do_mod (de_callT dc_int m_int (by decide +kernel) (da_cons (de_bin do_mult (de_var 2) (de_bin do_add (de_var 2) (de_int))) (da_nil))) (de_int))))))
/-! _law_random -/
theorem sc__law_random : FnScope ["generator", "bound", "drawn", "turn"] ["generator", "bound"] (defScope (topS 64)) := ⟨rfl, rfl, rfl, by decide +kernel, rfl, by decide +kernel, by decide +kernel⟩
theorem ok__law_random {f : Addr} {fd : FuncData} (m_int : mg "int" = none) (m_range : mg "range" = none) (c__law_hash : Cal P w K mg base 1 "_law_hash" 2 o__law_hash) (D : FunD K "_law_random" "_law_random" (defArgs (topS 64)) (defBody (topS 64)) (defScope (topS 64)) [] [] f fd) (m : mg "_law_random" = some (.ref f)) : CalG P w K mg base 2 "_law_random" 1 o__law_random :=
  calG_of D m sc__law_random rfl defG_run (fun _ _ _ _ _ _ us hl => match us, hl with | [_, _], _ => rfl) fun W cdv A outer s H E hr tk => by
    have nd := sc__law_random.nd
    exact (sxs_cons (sx_if_ok (dxt_of (dt_sc (dt_cmp (do_gt (room64 hr)) (de_ix (de_var 0) (de_int)) (de_int)))) (sxs_cons (SE.x (se_asg (i := 2) nd (de_sc (de_bin do_mod (de_callT dc_int m_int (by decide +kernel) (da_cons (de_ix (de_var 0) (de_int)) (da_nil))) (de_var 1))))) (sxs_cons (sx_put_ok (i := 0) (dx_of (de_sc (de_bin do_fdiv (de_ix (de_var 0) (de_int)) (de_var 1))))) (sxs_one (SE.x (se_ret (de_var 2)))))) (sxs_nil)) (sxs_cons (SE.x (se_asg (i := 2) nd (de_int))) (sxs_cons (sx_for_ok (t := (.one 3)) passes_cx (dxi_of (di_range1 m_range (da_cons (de_bin do_add (de_int) (de_bin do_fdiv (de_bits (de_var 1)) (de_int))) (da_nil)))) (pg_name (i := 3) nd rfl (Or.inl rfl)) (sxs_cons (sx_put_ok (i := 0) (dx_of (de_sc (de_bin do_add (de_ix (de_var 0) (de_int)) (de_int))))) (sxs_one (SE.x (se_asg (i := 2) nd (de_sc (de_bin do_add (de_bin do_mult (de_var 2) (de_int)) (de_cal c__law_hash hr (by decide) (da_cons (de_ix (de_var 0) (de_int)) (da_cons (de_ix (de_var 0) (de_int)) (da_nil))) (l_cons_len (l_cons_len (l_nil_len))))))))))) (sxs_one (SE.x (se_ret (de_bin do_mod (de_callT dc_int m_int (by decide +kernel) (da_cons (de_var 2) (da_nil))) (de_var 1))))))))
/-! _law_cell -/
theorem sc__law_cell : FnScope ["script", "index"] ["script", "index"] (defScope (topS 65)) := ⟨rfl, rfl, rfl, by decide +kernel, rfl, by decide +kernel, by decide +kernel⟩
theorem ok__law_cell {f : Addr} {fd : FuncData} (m_len : mg "len" = none) (m_sum : mg "sum" = none) (D : FunD K "_law_cell" "_law_cell" (defArgs (topS 65)) (defBody (topS 65)) (defScope (topS 65)) [] [] f fd) (m : mg "_law_cell" = some (.ref f)) : Cal P w K mg base 1 "_law_cell" 2 o__law_cell :=
  cal_of D m sc__law_cell rfl defD_run (fun _ _ _ _ _ _ us hl => match us, hl with | [_, _], _ => rfl) fun cdv A outer s H E hr => by
    have nd := sc__law_cell.nd
    exact (ses_cons (se_if (dt_cmp (do_lt (room64 hr)) (de_var 1) (de_callB dc_len m_len (by decide +kernel) (da_cons (de_var 0) (da_nil)))) (ses_one (se_ret (de_ix (de_var 0) (de_var 1)))) (ses_nil)) (ses_one (se_ret (de_bin do_mod (de_callB dc_sum m_sum (by decide +kernel) (da_cons (de_cut (de_var 0) do_no (do_at (de_int))) (da_nil))) (de_int)))))
/-! _law_generator -/
theorem sc__law_generator : FnScope ["script", "index", "seed"] ["script", "index"] (defScope (topS 66)) := ⟨rfl, rfl, rfl, by decide +kernel, rfl, by decide +kernel, by decide +kernel⟩
theorem ok__law_generator {f : Addr} {fd : FuncData} (m_int : mg "int" = none) (m_max : mg "max" = none) (c__law_cell : Cal P w K mg base 1 "_law_cell" 2 o__law_cell) (D : FunD K "_law_generator" "_law_generator" (defArgs (topS 66)) (defBody (topS 66)) (defScope (topS 66)) [] [] f fd) (m : mg "_law_generator" = some (.ref f)) : CalN P w K mg base 2 "_law_generator" 2 o__law_generator :=
  calN_of D m sc__law_generator rfl defN_run (fun _ _ _ _ _ _ us hl => match us, hl with | [_, _], _ => rfl) fun cdv A outer s H E hr => by
    have nd := sc__law_generator.nd
    exact (nes_cons (se_asg (i := 2) nd (de_cal c__law_cell hr (by decide) (da_cons (de_var 0) (da_cons (de_var 1) (da_nil))) (l_cons_len (l_cons_len (l_nil_len))))) (nes_ret (dn_lst (da_cons (de_bin do_mod (de_callT dc_int m_int (by decide +kernel) (da_cons (de_callB dc_max2 m_max (by decide +kernel) (da_cons (de_bin do_sub (de_var 2) (de_bin do_pow (de_int) (de_int))) (da_cons (de_int) (da_nil)))) (da_nil))) (de_bin do_pow (de_bin do_pow (de_int) (de_int)) (de_int))) (da_cons (de_bin do_mod (de_callT dc_int m_int (by decide +kernel) (da_cons (de_var 2) (da_nil))) (de_int)) (da_cons (de_bin do_mult (de_int) (de_var 1)) (da_nil)))))))
/-! _law_pick -/
theorem sc__law_pick : FnScope ["generator", "items"] ["generator", "items"] (defScope (topS 67)) := ⟨rfl, rfl, rfl, by decide +kernel, rfl, by decide +kernel, by decide +kernel⟩
theorem ok__law_pick {f : Addr} {fd : FuncData} (m_len : mg "len" = none) (c__law_random : CalG P w K mg base 2 "_law_random" 1 o__law_random) (D : FunD K "_law_pick" "_law_pick" (defArgs (topS 67)) (defBody (topS 67)) (defScope (topS 67)) [] [] f fd) (m : mg "_law_pick" = some (.ref f)) : CalG P w K mg base 3 "_law_pick" 1 o__law_pick :=
  calG_of D m sc__law_pick rfl defG_run (fun _ _ _ _ _ _ us hl => match us, hl with | [_, _], _ => rfl) fun W cdv A outer s H E hr tk => by
    have nd := sc__law_pick.nd
    exact (sxs_one (sx_ret_ok (dx_ix (dx_of (de_var 1)) (dx_calG c__law_random 0 tk hr (by decide) (dxa_of (da_cons (de_callB dc_len m_len (by decide +kernel) (da_cons (de_var 1) (da_nil))) (da_nil)))))))
/-! _law_order -/
theorem sc__law_order : FnScope ["generator", "items", "left", "found", "turn"] ["generator", "items"] (defScope (topS 68)) := ⟨rfl, rfl, rfl, by decide +kernel, rfl, by decide +kernel, by decide +kernel⟩
theorem ok__law_order {f : Addr} {fd : FuncData} (m_len : mg "len" = none) (m_list : mg "list" = none) (m_range : mg "range" = none) (c__law_random : CalG P w K mg base 2 "_law_random" 1 o__law_random) (D : FunD K "_law_order" "_law_order" (defArgs (topS 68)) (defBody (topS 68)) (defScope (topS 68)) [] [] f fd) (m : mg "_law_order" = some (.ref f)) : CalG P w K mg base 3 "_law_order" 1 o__law_order :=
  calG_of D m sc__law_order rfl defG_run (fun _ _ _ _ _ _ us hl => match us, hl with | [_, _], _ => rfl) fun W cdv A outer s H E hr tk => by
    have nd := sc__law_order.nd
    exact (sxs_cons (sx_par2_ok (i := 2) (j := 3) nd (dxp_ow (dxn_of (dn_callT dcn_list m_list (by decide +kernel) (da_cons (de_var 1) (da_nil)))) (dxp_ow (dxn_of (dn_lst (da_nil))) (dxp_nil)))) (sxs_cons (sx_for_ok (t := (.one 4)) passes_cx (dxi_of (di_range1 m_range (da_cons (de_callB dc_len m_len (by decide +kernel) (da_cons (de_var 1) (da_nil))) (da_nil)))) (pg_name (i := 4) nd rfl (Or.inl rfl)) (sxs_one (sx_app_ok (i := 3) (fun _ ht => pe_bm PySem.F.plainAttrs_list PySem.F.slot_list_append PySem.F.type_list_append mt_append (pv 3) (pa_cons ht pa_nil)) (dx_pop 2 (fun _ ht => pe_bm PySem.F.plainAttrs_list PySem.F.slot_list_pop PySem.F.type_list_pop mt_popAt (pv 2) (pa_cons ht pa_nil)) (dx_calG c__law_random 0 tk hr (by decide) (dxa_of (da_cons (de_sc (de_callB dc_len m_len (by decide +kernel) (da_cons (de_var 2) (da_nil)))) (da_nil)))))))) (sxs_one (SE.x (se_reto)))))
/-! _law_within -/
theorem sc__law_within : FnScope ["one", "other", "point"] ["one", "other"] (defScope (topS 69)) := ⟨rfl, rfl, rfl, by decide +kernel, rfl, by decide +kernel, by decide +kernel⟩
theorem ok__law_within {f : Addr} {fd : FuncData} (D : FunD K "_law_within" "_law_within" (defArgs (topS 69)) (defBody (topS 69)) (defScope (topS 69)) [] [] f fd) (m : mg "_law_within" = some (.ref f)) : Cal P w K mg base 1 "_law_within" 2 o__law_within :=
  cal_of D m sc__law_within rfl defD_run (fun _ _ _ _ _ _ us hl => match us, hl with | [_, _], _ => rfl) fun cdv A outer s H E hr => by
    have nd := sc__law_within.nd
    exact (ses_one (se_ret (de_cmp (do_eq (room64 hr)) (de_new (dn_lc (own := [("point", 2)]) (t := (.one 2)) (di_items (de_var 0)) (by decide) (blkOk_by (by rfl)) nd rfl (fun _ _ _ _ _ => pg_name (i := 2) nd rfl (Or.inl rfl)) (fun _ _ _ _ _ => pts_if (dt_cmp (do_notin (room65 hr)) (de_var 2) (de_var 1))) (fun _ _ _ _ _ => (de_var 2)))) (de_lst (da_nil)))))
/-! _law_tops -/
theorem sc__law_tops : FnScope ["lots", "found", "lot", "other"] ["lots"] (defScope (topS 70)) := ⟨rfl, rfl, rfl, by decide +kernel, rfl, by decide +kernel, by decide +kernel⟩
theorem ok__law_tops {f : Addr} {fd : FuncData} (m_sorted : mg "sorted" = none) (c__law_within : Cal P w K mg base 1 "_law_within" 2 o__law_within) (D : FunD K "_law_tops" "_law_tops" (defArgs (topS 70)) (defBody (topS 70)) (defScope (topS 70)) [] [] f fd) (m : mg "_law_tops" = some (.ref f)) : Cal P w K mg base 2 "_law_tops" 1 o__law_tops :=
  cal_of D m sc__law_tops rfl defD_run (fun _ _ _ _ _ _ us hl => match us, hl with | [_], _ => rfl) fun cdv A outer s H E hr => by
    have nd := sc__law_tops.nd
    exact (ses_cons (se_own (i := 1) nd (dn_lst (da_nil))) (ses_cons (se_for (t := (.one 2)) PassesOwn.never (di_items (de_var 0)) (pg_name (i := 2) nd rfl (Or.inr rfl)) (ses_one (se_if (DW.dt (dw_and (dt_cmp (do_ne (room64 hr)) (de_var 2) (de_lst (da_nil))) (dw_and (dt_sc (dt_cmp (do_notin (room65 hr)) (de_var 2) (de_var 1))) (dw_and1 (dt_cmp (do_eq (room64 hr)) (de_new (dn_lc (own := [("other", 3)]) (t := (.one 3)) (di_items (de_var 0)) (by decide) (blkOk_by (by rfl)) nd rfl (fun _ _ _ _ _ => pg_name (i := 3) nd rfl (Or.inl rfl)) (fun _ _ _ _ _ => pts_if (DW.dt (dw_and (dt_cmp (do_ne (room64 hr)) (de_var 2) (de_var 3)) (dw_and1 (dt_val (de_cal c__law_within hr (by decide) (da_cons (de_var 2) (da_cons (de_var 3) (da_nil))) (l_cons_len (l_cons_len (l_nil_len))))))))) (fun _ _ _ _ _ => (de_var 3)))) (de_lst (da_nil))))))) (ses_one (se_app (pe_bm PySem.F.plainAttrs_list PySem.F.slot_list_append PySem.F.type_list_append mt_append (pv 1) (pa_cons (de_var 2) pa_nil)))) (ses_nil)))) (ses_one (se_ret (de_new (dn_sortedo 1 hr m_sorted))))))
/-! _law_body -/
theorem sc__law_body : FnScope ["generator", "most", "many", "lots", "turn", "size"] ["generator", "most"] (defScope (topS 71)) := ⟨rfl, rfl, rfl, by decide +kernel, rfl, by decide +kernel, by decide +kernel⟩
theorem ok__law_body {f : Addr} {fd : FuncData} (m_list : mg "list" = none) (m_range : mg "range" = none) (m_sorted : mg "sorted" = none) (c__law_random : CalG P w K mg base 2 "_law_random" 1 o__law_random) (c__law_pick : CalG P w K mg base 3 "_law_pick" 1 o__law_pick) (c__law_order : CalG P w K mg base 3 "_law_order" 1 o__law_order) (c__law_tops : Cal P w K mg base 2 "_law_tops" 1 o__law_tops) (D : FunD K "_law_body" "_law_body" (defArgs (topS 71)) (defBody (topS 71)) (defScope (topS 71)) [] [] f fd) (m : mg "_law_body" = some (.ref f)) : CalG P w K mg base 4 "_law_body" 1 o__law_body :=
  calG_of D m sc__law_body rfl defG_run (fun _ _ _ _ _ _ us hl => match us, hl with | [_, _], _ => rfl) fun W cdv A outer s H E hr tk => by
    have nd := sc__law_body.nd
    exact (sxs_cons (sx_asg_ok (i := 2) nd (dx_bin do_add (dx_of (de_int)) (dx_calG c__law_random 0 tk hr (by decide) (dxa_of (da_cons (de_var 1) (da_nil)))))) (sxs_cons (SE.x (se_own (i := 3) nd (dn_lst (da_nil)))) (sxs_cons (sx_for_ok (t := (.one 4)) passes_cx (dxi_range1 m_range (dxa_cons (dx_calG c__law_random 0 tk hr (by decide) (dxa_of (da_cons (de_int) (da_nil)))) (dxa_nil))) (pg_name (i := 4) nd rfl (Or.inl rfl)) (sxs_cons (sx_asg_ok (i := 5) nd (dx_bin do_add (dx_of (de_int)) (dx_calG c__law_pick 0 tk hr (by decide) (dxa_of (da_cons (de_lst (da_cons (de_int) (da_cons (de_int) (da_cons (de_int) (da_cons (de_int) (da_cons (de_int) (da_cons (de_int) (da_cons (de_int) (da_nil))))))))) (da_nil)))))) (sxs_one (sx_app_ok (i := 3) (fun _ ht => pe_bm PySem.F.plainAttrs_list PySem.F.slot_list_append PySem.F.type_list_append mt_append (pv 3) (pa_cons ht pa_nil)) (dx_new (dxn_callB (dcn_sorted (room64 hr)) m_sorted (by decide +kernel) (dxa_cons (dx_cut (dx_calG c__law_order 0 tk hr (by decide) (dxa_of (da_cons (de_new (dn_listRg (prgD1 m_range (de_var 2)) m_list)) (da_nil)))) dxo_no (dxo_at (dx_of (de_var 5)))) (dxa_nil)))))))) (sxs_frz 3 (sxs_one (SE.x (se_ret (de_tup (da_cons (de_str) (da_cons (de_var 2) (da_cons (de_cal c__law_tops hr (by decide) (da_cons (de_var 3) (da_nil)) (l_cons_len (l_nil_len))) (da_nil))))))))))))
/-! _law_body_right -/
theorem sc__law_body_right : FnScope ["generator", "body", "many", "faces", "early", "dimension", "late", "names", "face"] ["generator", "body"] (defScope (topS 72)) := ⟨rfl, rfl, rfl, by decide +kernel, rfl, by decide +kernel, by decide +kernel⟩
theorem ok__law_body_right {f : Addr} {fd : FuncData} (m_len : mg "len" = none) (m_list : mg "list" = none) (m_range : mg "range" = none) (m_sum : mg "sum" = none) (c_all_faces : Cal P w K mg base 5 "all_faces" 1 o_all_faces) (c_is_complex : Cal P w K mg base 4 "is_complex" 1 o_is_complex) (c_complex_barring : Cal P w K mg base 4 "complex_barring" 2 o_complex_barring) (c_least_missing : Cal P w K mg base 5 "least_missing" 1 o_least_missing) (c_complex_with : Cal P w K mg base 4 "complex_with" 2 o_complex_with) (c_is_face : Cal P w K mg base 5 "is_face" 2 o_is_face) (c_face_counts : Cal P w K mg base 6 "face_counts" 1 o_face_counts) (c_skeleton : Cal P w K mg base 5 "skeleton" 2 o_skeleton) (c_meet : Cal P w K mg base 6 "meet" 2 o_meet) (c_union : Cal P w K mg base 6 "union" 2 o_union) (c_cone : Cal P w K mg base 5 "cone" 1 o_cone) (c_euler_number : Cal P w K mg base 7 "euler_number" 1 o_euler_number) (c_hung : Cal P w K mg base 5 "hung" 1 o_hung) (c__law_order : CalG P w K mg base 3 "_law_order" 1 o__law_order) (c_is_flag : Cal P w K mg base 6 "is_flag" 1 o_is_flag) (c_renamed : Cal P w K mg base 5 "renamed" 2 o_renamed) (D : FunD K "_law_body_right" "_law_body_right" (defArgs (topS 72)) (defBody (topS 72)) (defScope (topS 72)) [] [] f fd) (m : mg "_law_body_right" = some (.ref f)) : CalG P w K mg base 8 "_law_body_right" 1 o__law_body_right :=
  calG_of D m sc__law_body_right rfl defG_run (fun _ _ _ _ _ _ us hl => match us, hl with | [_, _], _ => rfl) fun W cdv A outer s H E hr tk => by
    have nd := sc__law_body_right.nd
    exact (sxs_cons (sx_par2_ok (i := 2) (j := 3) nd (dxp_im (dx_of (de_ix (de_var 1) (de_int))) (dxp_im (dx_of (de_cal c_all_faces hr (by decide) (da_cons (de_var 1) (da_nil)) (l_cons_len (l_nil_len)))) (dxp_nil)))) (sxs_cons (SE.x (se_if (DW.dt (dw_or (dt_cmp (do_ne (room64 hr)) (de_cal c_complex_with hr (by decide) (da_cons (de_var 2) (da_cons (de_ix (de_var 1) (de_int)) (da_nil))) (l_cons_len (l_cons_len (l_nil_len)))) (de_var 1)) (dw_or (dt_cmp (do_ne (room64 hr)) (de_cal c_complex_with hr (by decide) (da_cons (de_var 2) (da_cons (de_var 3) (da_nil))) (l_cons_len (l_cons_len (l_nil_len)))) (de_var 1)) (dw_or (dt_cmp (do_ne (room64 hr)) (de_cal c_complex_barring hr (by decide) (da_cons (de_var 2) (da_cons (de_cal c_least_missing hr (by decide) (da_cons (de_var 1) (da_nil)) (l_cons_len (l_nil_len))) (da_nil))) (l_cons_len (l_cons_len (l_nil_len)))) (de_var 1)) (dw_or1 (dt_not (dt_val (de_cal c_is_complex hr (by decide) (da_cons (de_var 1) (da_nil)) (l_cons_len (l_nil_len)))))))))) (ses_one (se_ret (de_bl))) (ses_nil))) (sxs_cons (SE.x (se_if (DW.dt (dw_or (dt_cmp (do_ne (room64 hr)) (de_callB dc_sum m_sum (by decide +kernel) (da_cons (de_cal c_face_counts hr (by decide) (da_cons (de_var 1) (da_nil)) (l_cons_len (l_nil_len))) (da_nil))) (de_callB dc_len m_len (by decide +kernel) (da_cons (de_var 3) (da_nil)))) (dw_or1 (dt_cmp (do_ne (room64 hr)) (de_new (dn_lc (own := [("face", 8)]) (t := (.one 8)) (di_items (de_var 3)) (by decide) (blkOk_by (by rfl)) nd rfl (fun _ _ _ _ _ => pg_name (i := 8) nd rfl (Or.inl rfl)) (fun _ _ _ _ _ => pts_if (dt_not (dt_val (de_cal c_is_face hr (by decide) (da_cons (de_var 1) (da_cons (de_var 8) (da_nil))) (l_cons_len (l_cons_len (l_nil_len))))))) (fun _ _ _ _ _ => (de_var 8)))) (de_lst (da_nil)))))) (ses_one (se_ret (de_bl))) (ses_nil))) (sxs_cons (SE.x (se_asg (i := 4) nd (de_tup (da_cons (de_str) (da_cons (de_var 2) (da_cons (de_lst (da_nil)) (da_nil))))))) (sxs_cons (sx_for_ok (t := (.one 5)) passes_cx (dxi_of (di_range1 m_range (da_cons (de_int) (da_nil)))) (pg_name (i := 5) nd rfl (Or.inl rfl)) (SEs.x (ses_cons (se_asg (i := 6) nd (de_cal c_skeleton hr (by decide) (da_cons (de_var 1) (da_cons (de_var 5) (da_nil))) (l_cons_len (l_cons_len (l_nil_len))))) (ses_cons (se_if (DW.dt (dw_or (dt_cmp (do_ne (room64 hr)) (de_cal c_union hr (by decide) (da_cons (de_var 4) (da_cons (de_var 6) (da_nil))) (l_cons_len (l_cons_len (l_nil_len)))) (de_var 6)) (dw_or (dt_cmp (do_ne (room64 hr)) (de_cal c_meet hr (by decide) (da_cons (de_var 6) (da_cons (de_var 1) (da_nil))) (l_cons_len (l_cons_len (l_nil_len)))) (de_var 6)) (dw_or1 (dt_cmp (do_ne (room64 hr)) (de_cal c_face_counts hr (by decide) (da_cons (de_var 6) (da_nil)) (l_cons_len (l_nil_len))) (de_cut (de_cal c_face_counts hr (by decide) (da_cons (de_var 1) (da_nil)) (l_cons_len (l_nil_len))) do_no (do_at (de_bin do_add (de_var 5) (de_int))))))))) (ses_one (se_ret (de_bl))) (ses_nil)) (ses_one (se_asg (i := 4) nd (de_var 6))))))) (sxs_cons (SE.x (se_if (DW.dt (dw_or (dt_cmp (do_ne (room64 hr)) (de_cal c_euler_number hr (by decide) (da_cons (de_cal c_cone hr (by decide) (da_cons (de_var 1) (da_nil)) (l_cons_len (l_nil_len))) (da_nil)) (l_cons_len (l_nil_len))) (de_int)) (dw_or (DW.dt (dw_and (dt_cmp (do_lt (room64 hr)) (de_var 2) (de_int)) (dw_and1 (dt_cmp (do_ne (room64 hr)) (de_cal c_euler_number hr (by decide) (da_cons (de_cal c_hung hr (by decide) (da_cons (de_var 1) (da_nil)) (l_cons_len (l_nil_len))) (da_nil)) (l_cons_len (l_nil_len))) (de_bin do_sub (de_int) (de_cal c_euler_number hr (by decide) (da_cons (de_var 1) (da_nil)) (l_cons_len (l_nil_len)))))))) (dw_or1 (dt_cmp (do_ne (room64 hr)) (de_callB dc_len m_len (by decide +kernel) (da_cons (de_cal c_least_missing hr (by decide) (da_cons (de_cal c_cone hr (by decide) (da_cons (de_var 1) (da_nil)) (l_cons_len (l_nil_len))) (da_nil)) (l_cons_len (l_nil_len))) (da_nil))) (de_callB dc_len m_len (by decide +kernel) (da_cons (de_cal c_least_missing hr (by decide) (da_cons (de_var 1) (da_nil)) (l_cons_len (l_nil_len))) (da_nil)))))))) (ses_one (se_ret (de_bl))) (ses_nil))) (sxs_cons (sx_asg_ok (i := 7) nd (dx_calG c__law_order 0 tk hr (by decide) (dxa_of (da_cons (de_new (dn_listRg (prgD1 m_range (de_var 2)) m_list)) (da_nil))))) (sxs_one (SE.x (se_ret (de_and (de_cmp (do_eq (room64 hr)) (de_cal c_face_counts hr (by decide) (da_cons (de_cal c_renamed hr (by decide) (da_cons (de_var 1) (da_cons (de_var 7) (da_nil))) (l_cons_len (l_cons_len (l_nil_len)))) (da_nil)) (l_cons_len (l_nil_len))) (de_cal c_face_counts hr (by decide) (da_cons (de_var 1) (da_nil)) (l_cons_len (l_nil_len)))) (de_one (de_cmp (do_eq (room64 hr)) (de_cal c_is_flag hr (by decide) (da_cons (de_cal c_renamed hr (by decide) (da_cons (de_var 1) (da_cons (de_var 7) (da_nil))) (l_cons_len (l_cons_len (l_nil_len)))) (da_nil)) (l_cons_len (l_nil_len))) (de_cal c_is_flag hr (by decide) (da_cons (de_var 1) (da_nil)) (l_cons_len (l_nil_len))))))))))))))))
/-! _law_faces_right -/
theorem sc__law_faces_right : FnScope ["generator", "body", "face", "linked", "top"] ["generator", "body"] (defScope (topS 73)) := ⟨rfl, rfl, rfl, by decide +kernel, rfl, by decide +kernel, by decide +kernel⟩
theorem ok__law_faces_right {f : Addr} {fd : FuncData} (m_len : mg "len" = none) (m_sorted : mg "sorted" = none) (c__law_order : CalG P w K mg base 3 "_law_order" 1 o__law_order) (c_all_faces : Cal P w K mg base 5 "all_faces" 1 o_all_faces) (c_link : Cal P w K mg base 5 "link" 2 o_link) (c_complex_with : Cal P w K mg base 4 "complex_with" 2 o_complex_with) (c_star : Cal P w K mg base 5 "star" 2 o_star) (c_without : Cal P w K mg base 5 "without" 2 o_without) (D : FunD K "_law_faces_right" "_law_faces_right" (defArgs (topS 73)) (defBody (topS 73)) (defScope (topS 73)) [] [] f fd) (m : mg "_law_faces_right" = some (.ref f)) : CalG P w K mg base 6 "_law_faces_right" 1 o__law_faces_right :=
  calG_of D m sc__law_faces_right rfl defG_run (fun _ _ _ _ _ _ us hl => match us, hl with | [_, _], _ => rfl) fun W cdv A outer s H E hr tk => by
    have nd := sc__law_faces_right.nd
    exact (sxs_cons (sx_for_ok (t := (.one 2)) passes_cx (dxi_items (dx_cut (dx_calG c__law_order 0 tk hr (by decide) (dxa_of (da_cons (de_cal c_all_faces hr (by decide) (da_cons (de_var 1) (da_nil)) (l_cons_len (l_nil_len))) (da_nil)))) dxo_no (dxo_at (dx_of (de_int))))) (pg_name (i := 2) nd rfl (Or.inr rfl)) (SEs.x (ses_cons (se_asg (i := 3) nd (de_cal c_link hr (by decide) (da_cons (de_var 1) (da_cons (de_var 2) (da_nil))) (l_cons_len (l_cons_len (l_nil_len))))) (ses_cons (se_if (dt_cmp (do_ne (room64 hr)) (de_cal c_complex_with hr (by decide) (da_cons (de_ix (de_var 1) (de_int)) (da_cons (de_bin do_add (de_new (dn_lc (own := [("top", 4)]) (t := (.one 4)) (di_items (de_ix (de_var 3) (de_int))) (by decide) (blkOk_by (by rfl)) nd rfl (fun _ _ _ _ _ => pg_name (i := 4) nd rfl (Or.inl rfl)) (fun _ _ _ _ _ => pts_yes) (fun _ _ _ _ _ => (de_new (dn_callB (dcn_sorted (room64 hr)) m_sorted (by decide +kernel) (da_cons (de_bin do_add (de_var 4) (de_var 2)) (da_nil))))))) (de_lst (da_cons (de_var 2) (da_nil)))) (da_nil))) (l_cons_len (l_cons_len (l_nil_len)))) (de_cal c_star hr (by decide) (da_cons (de_var 1) (da_cons (de_var 2) (da_nil))) (l_cons_len (l_cons_len (l_nil_len))))) (ses_one (se_ret (de_bl))) (ses_nil)) (ses_one (se_if (dt_cmp (do_ne (room64 hr)) (de_bin do_add (de_bin do_add (de_callB dc_len m_len (by decide +kernel) (da_cons (de_cal c_all_faces hr (by decide) (da_cons (de_cal c_without hr (by decide) (da_cons (de_var 1) (da_cons (de_var 2) (da_nil))) (l_cons_len (l_cons_len (l_nil_len)))) (da_nil)) (l_cons_len (l_nil_len))) (da_nil))) (de_callB dc_len m_len (by decide +kernel) (da_cons (de_cal c_all_faces hr (by decide) (da_cons (de_var 3) (da_nil)) (l_cons_len (l_nil_len))) (da_nil)))) (de_int)) (de_callB dc_len m_len (by decide +kernel) (da_cons (de_cal c_all_faces hr (by decide) (da_cons (de_var 1) (da_nil)) (l_cons_len (l_nil_len))) (da_nil)))) (ses_one (se_ret (de_bl))) (ses_nil))))))) (sxs_one (SE.x (se_ret (de_bl)))))
/-! _law_two_right -/
theorem sc__law_two_right : FnScope ["one", "other", "both", "turned", "names", "point"] ["one", "other"] (defScope (topS 74)) := ⟨rfl, rfl, rfl, by decide +kernel, rfl, by decide +kernel, by decide +kernel⟩
theorem ok__law_two_right {f : Addr} {fd : FuncData} (m_len : mg "len" = none) (m_list : mg "list" = none) (m_range : mg "range" = none) (c_join : Cal P w K mg base 5 "join" 2 o_join) (c_all_faces : Cal P w K mg base 5 "all_faces" 1 o_all_faces) (c_renamed : Cal P w K mg base 5 "renamed" 2 o_renamed) (c_is_flag : Cal P w K mg base 6 "is_flag" 1 o_is_flag) (c_is_even_topped : Cal P w K mg base 5 "is_even_topped" 1 o_is_even_topped) (D : FunD K "_law_two_right" "_law_two_right" (defArgs (topS 74)) (defBody (topS 74)) (defScope (topS 74)) [] [] f fd) (m : mg "_law_two_right" = some (.ref f)) : Cal P w K mg base 7 "_law_two_right" 2 o__law_two_right :=
  cal_of D m sc__law_two_right rfl defD_run (fun _ _ _ _ _ _ us hl => match us, hl with | [_, _], _ => rfl) fun cdv A outer s H E hr => by
    have nd := sc__law_two_right.nd
    exact (ses_cons (se_par_ii (i := 2) (j := 3) nd (de_cal c_join hr (by decide) (da_cons (de_var 0) (da_cons (de_var 1) (da_nil))) (l_cons_len (l_cons_len (l_nil_len)))) (de_cal c_join hr (by decide) (da_cons (de_var 1) (da_cons (de_var 0) (da_nil))) (l_cons_len (l_cons_len (l_nil_len))))) (ses_cons (se_asg (i := 4) nd (de_bin do_add (de_new (dn_lc (own := [("point", 5)]) (t := (.one 5)) (di_range1 m_range (da_cons (de_ix (de_var 0) (de_int)) (da_nil))) (by decide) (blkOk_by (by rfl)) nd rfl (fun _ _ _ _ _ => pg_name (i := 5) nd rfl (Or.inl rfl)) (fun _ _ _ _ _ => pts_yes) (fun _ _ _ _ _ => (de_bin do_add (de_var 5) (de_ix (de_var 1) (de_int)))))) (de_new (dn_listRg (prgD1 m_range (de_ix (de_var 1) (de_int))) m_list)))) (ses_cons (se_if (DW.dt (dw_or (dt_cmp (do_ne (room64 hr)) (de_cal c_renamed hr (by decide) (da_cons (de_var 2) (da_cons (de_var 4) (da_nil))) (l_cons_len (l_cons_len (l_nil_len)))) (de_var 3)) (dw_or1 (dt_cmp (do_ne (room64 hr)) (de_bin do_add (de_callB dc_len m_len (by decide +kernel) (da_cons (de_cal c_all_faces hr (by decide) (da_cons (de_var 2) (da_nil)) (l_cons_len (l_nil_len))) (da_nil))) (de_int)) (de_bin do_mult (de_bin do_add (de_callB dc_len m_len (by decide +kernel) (da_cons (de_cal c_all_faces hr (by decide) (da_cons (de_var 0) (da_nil)) (l_cons_len (l_nil_len))) (da_nil))) (de_int)) (de_bin do_add (de_callB dc_len m_len (by decide +kernel) (da_cons (de_cal c_all_faces hr (by decide) (da_cons (de_var 1) (da_nil)) (l_cons_len (l_nil_len))) (da_nil))) (de_int))))))) (ses_one (se_ret (de_bl))) (ses_nil)) (ses_cons (se_if (dt_cmp (do_ne (room64 hr)) (de_cal c_is_flag hr (by decide) (da_cons (de_var 2) (da_nil)) (l_cons_len (l_nil_len))) (de_and (de_cal c_is_flag hr (by decide) (da_cons (de_var 0) (da_nil)) (l_cons_len (l_nil_len))) (de_one (de_cal c_is_flag hr (by decide) (da_cons (de_var 1) (da_nil)) (l_cons_len (l_nil_len)))))) (ses_one (se_ret (de_bl))) (ses_nil)) (ses_one (se_ret (de_or (de_cmp (do_eq (room64 hr)) (de_ix (de_var 0) (de_int)) (de_lst (da_nil))) (de_or (de_cmp (do_eq (room64 hr)) (de_ix (de_var 1) (de_int)) (de_lst (da_nil))) (de_one (de_cmp (do_eq (room64 hr)) (de_cal c_is_even_topped hr (by decide) (da_cons (de_var 2) (da_nil)) (l_cons_len (l_nil_len))) (de_and (de_cal c_is_even_topped hr (by decide) (da_cons (de_var 0) (da_nil)) (l_cons_len (l_nil_len))) (de_one (de_cal c_is_even_topped hr (by decide) (da_cons (de_var 1) (da_nil)) (l_cons_len (l_nil_len)))))))))))))))
/-! _law_right -/
theorem sc__law_right : FnScope ["generator", "body", "other", "many"] ["generator"] (defScope (topS 75)) := ⟨rfl, rfl, rfl, by decide +kernel, rfl, by decide +kernel, by decide +kernel⟩
theorem ok__law_right {f : Addr} {fd : FuncData} (c__law_body : CalG P w K mg base 4 "_law_body" 1 o__law_body) (c__law_two_right : Cal P w K mg base 7 "_law_two_right" 2 o__law_two_right) (c__law_faces_right : CalG P w K mg base 6 "_law_faces_right" 1 o__law_faces_right) (c__law_body_right : CalG P w K mg base 8 "_law_body_right" 1 o__law_body_right) (c__law_random : CalG P w K mg base 2 "_law_random" 1 o__law_random) (c_euler_number : Cal P w K mg base 7 "euler_number" 1 o_euler_number) (c_ball : Cal P w K mg base 4 "ball" 1 o_ball) (c_sphere : Cal P w K mg base 4 "sphere" 1 o_sphere) (c_skeleton : Cal P w K mg base 5 "skeleton" 2 o_skeleton) (D : FunD K "_law_right" "_law_right" (defArgs (topS 75)) (defBody (topS 75)) (defScope (topS 75)) [] [] f fd) (m : mg "_law_right" = some (.ref f)) : CalG P w K mg base 9 "_law_right" 0 o__law_right :=
  calG_of D m sc__law_right rfl defG_run (fun _ _ _ _ _ _ us hl => match us, hl with | [_], _ => rfl) fun W cdv A outer s H E hr tk => by
    have nd := sc__law_right.nd
    exact (sxs_cons (sx_par2_ok (i := 1) (j := 2) nd (dxp_im (dx_calG c__law_body 0 tk hr (by decide) (dxa_of (da_cons (de_int) (da_nil)))) (dxp_im (dx_calG c__law_body 0 tk hr (by decide) (dxa_of (da_cons (de_int) (da_nil)))) (dxp_nil)))) (sxs_cons (sx_if_ok (DXW.dt (dxw_or (dxt_not (dxt_val (dx_calG c__law_body_right 0 tk hr (by decide) (dxa_of (da_cons (de_var 1) (da_nil)))))) (dxw_or (dxt_not (dxt_val (dx_calG c__law_faces_right 0 tk hr (by decide) (dxa_of (da_cons (de_var 1) (da_nil)))))) (dxw_or1 (dxt_of (dt_not (dt_val (de_cal c__law_two_right hr (by decide) (da_cons (de_var 1) (da_cons (de_var 2) (da_nil))) (l_cons_len (l_cons_len (l_nil_len))))))))))) (SEs.x (ses_one (se_ret (de_bl)))) (sxs_nil)) (sxs_cons (sx_asg_ok (i := 3) nd (dx_bin do_add (dx_of (de_int)) (dx_calG c__law_random 0 tk hr (by decide) (dxa_of (da_cons (de_int) (da_nil)))))) (sxs_one (SE.x (se_ret (de_and (de_cmp (do_eq (room64 hr)) (de_cal c_sphere hr (by decide) (da_cons (de_var 3) (da_nil)) (l_cons_len (l_nil_len))) (de_cal c_skeleton hr (by decide) (da_cons (de_cal c_ball hr (by decide) (da_cons (de_var 3) (da_nil)) (l_cons_len (l_nil_len))) (da_cons (de_bin do_sub (de_var 3) (de_int)) (da_nil))) (l_cons_len (l_cons_len (l_nil_len))))) (de_one (de_cmp (do_eq (room64 hr)) (de_cal c_euler_number hr (by decide) (da_cons (de_cal c_ball hr (by decide) (da_cons (de_var 3) (da_nil)) (l_cons_len (l_nil_len))) (da_nil)) (l_cons_len (l_nil_len))) (de_int))))))))))
/-! law -/
theorem sc_law : FnScope ["script", "index", "generator"] ["script"] (defScope (topS 76)) := ⟨rfl, rfl, rfl, by decide +kernel, rfl, by decide +kernel, by decide +kernel⟩
theorem fn_law {f : Addr} {fd : FuncData} (m_range : mg "range" = none) (c__law_generator : CalN P w K mg base 2 "_law_generator" 2 o__law_generator) (c__law_right : CalG P w K mg base 9 "_law_right" 0 o__law_right) (D : FunD K "law" "law" (defArgs (topS 76)) (defBody (topS 76)) (defScope (topS 76)) [] [] f fd) : FnOk P w K mg base (L2.CX P w) 10 f fd ["script"] (spX K mg 1 o_law) :=
  def_okX D sc_law defX_run fun W cdv A outer s H E hr tk => by
    have nd := sc_law.nd
    exact (sxs_cons (sx_for_ok (t := (.one 1)) passes_cx (dxi_of (di_range1 m_range (da_cons (de_int) (da_nil)))) (pg_name (i := 1) nd rfl (Or.inl rfl)) (sxs_cons (SE.x (se_own (i := 2) nd (dn_cal c__law_generator hr (by decide) (da_cons (de_var 0) (da_cons (de_var 1) (da_nil))) (l_cons_len (l_cons_len (l_nil_len)))))) (sxs_one (sx_if_ok (DXW.dt (dxw_or (dxt_not (dxt_val (dx_calG c__law_right 2 tk hr (by decide) (dxa_of (da_nil))))) (dxw_or1 (dxt_not (dxt_val (dx_calG c__law_right 2 tk hr (by decide) (dxa_of (da_nil)))))))) (SEs.x (ses_one (se_ret (de_bl)))) (sxs_nil))))) (sxs_one (SE.x (se_ret (de_bl)))))
end
end K09
end

section
set_option Elab.async false
set_option linter.all false
set_option maxRecDepth 100000
set_option maxHeartbeats 0
namespace K09
open PySem PySem.Spec PyProof.Rows L2 DD
def dd (x : Str) (i : Nat) : He.DefD := ⟨(x, none), x, x, defArgs (topS i), defBody (topS i), defScope (topS i), [], []⟩
def fn : List He.DefD := [dd "is_whole" 12, dd "is_many" 13, dd "check_many" 14, dd "is_lot_by" 15, dd "lots_of" 16, dd "is_within" 17, dd "is_complex_by" 18, dd "check_complex" 19, dd "many_in" 20, dd "tops_in" 21, dd "has_face" 22, dd "faces_by" 23, dd "faces_at" 24, dd "dimension_of" 25, dd "complex_of" 26, dd "is_face_by" 27, dd "check_face" 28, dd "check_dimension" 29, dd "is_complex" 31, dd "check_lots" 32, dd "checked" 33, dd "complex_with" 34, dd "all_faces" 35, dd "is_face" 36, dd "counts_by" 37, dd "face_counts" 38, dd "euler_by" 39, dd "euler_number" 40, dd "skeleton" 41, dd "is_even_topped" 42, dd "rest_of" 43, dd "link" 44, dd "star" 45, dd "without" 46, dd "shifted" 47, dd "check_room" 48, dd "joined_by" 49, dd "join" 50, dd "cone" 51, dd "hung" 52, dd "check_alike" 53, dd "union" 54, dd "meet" 55, dd "least_missing" 56, dd "complex_barring" 57, dd "is_flag" 58, dd "renamed" 59, dd "ball" 60, dd "sphere" 61, dd "_law_hash" 63, dd "_law_random" 64, dd "_law_cell" 65, dd "_law_generator" 66, dd "_law_pick" 67, dd "_law_order" 68, dd "_law_within" 69, dd "_law_tops" 70, dd "_law_body" 71, dd "_law_body_right" 72, dd "_law_faces_right" 73, dd "_law_two_right" 74, dd "_law_right" 75, dd "law" 76]
def fa : List He.Fa := [.glo "is_whole", .glo "is_many", .glo "check_many", .glo "is_lot_by", .glo "lots_of", .glo "is_within", .glo "is_complex_by", .glo "check_complex", .glo "many_in", .glo "tops_in", .glo "has_face", .glo "faces_by", .glo "faces_at", .glo "dimension_of", .glo "complex_of", .glo "is_face_by", .glo "check_face", .glo "check_dimension", .glo "is_complex", .glo "check_lots", .glo "checked", .glo "complex_with", .glo "all_faces", .glo "is_face", .glo "counts_by", .glo "face_counts", .glo "euler_by", .glo "euler_number", .glo "skeleton", .glo "is_even_topped", .glo "rest_of", .glo "link", .glo "star", .glo "without", .glo "shifted", .glo "check_room", .glo "joined_by", .glo "join", .glo "cone", .glo "hung", .glo "check_alike", .glo "union", .glo "meet", .glo "least_missing", .glo "complex_barring", .glo "is_flag", .glo "renamed", .glo "ball", .glo "sphere", .glo "_law_hash", .glo "_law_random", .glo "_law_cell", .glo "_law_generator", .glo "_law_pick", .glo "_law_order", .glo "_law_within", .glo "_law_tops", .glo "_law_body", .glo "_law_body_right", .glo "_law_faces_right", .glo "_law_two_right", .glo "_law_right", .glo "law", .free "all", .free "any", .free "bool", .free "enumerate", .free "int", .free "isinstance", .free "len", .free "list", .free "max", .free "range", .free "sorted", .free "str", .free "sum", .free "tuple", .int "MOST_POINTS" 7, .int "MOST_TOPS" 20]
def loose : List PySem.Str := (["HoleError", "InvalidMany", "InvalidComplex", "InvalidFace", "InvalidNumber", "InvalidList", "Unlike", "TooMany", "MOST_POINTS", "MOST_TOPS", "is_whole", "is_many", "check_many", "is_lot_by", "lots_of", "is_within", "is_complex_by", "check_complex", "many_in", "tops_in", "has_face", "faces_by", "faces_at", "dimension_of", "complex_of", "is_face_by", "check_face", "check_dimension", "is_complex", "check_lots"] : List PySem.Str) ++ (["checked", "complex_with", "all_faces", "is_face", "counts_by", "face_counts", "euler_by", "euler_number", "skeleton", "is_even_topped", "rest_of", "link", "star", "without", "shifted", "check_room", "joined_by", "join", "cone", "hung", "check_alike", "union", "meet", "least_missing", "complex_barring", "is_flag", "renamed", "ball", "sphere", "_law_hash"] : List PySem.Str) ++ (["_law_random", "_law_cell", "_law_generator", "_law_pick", "_law_order", "_law_within", "_law_tops", "_law_body", "_law_body_right", "_law_faces_right", "_law_two_right", "_law_right"] : List PySem.Str)
abbrev R : PySem.W.OpenRow := PySem.W.OpenLaw.row PySem.Challenge.rw_holestold_k09_whole_complexes_go_along
abbrev hk : PySem.W.Hook := He.hookD 4 fa fn
def ob (s : PySem.W.SharedT) : He.AlD := He.obsDG 4 fa fn (HandSHeadRun.getT s)
theorem ob_eq (s : PySem.W.SharedT) : ob s = hk.obs s.abs := He.obsDG_eq (HandSHeadRun.getT_eq s)
theorem run (w : World) : HandSHeadRun.RunEq R (PySem.W.view R.prog [76]) hk ob 6000 loose w := by
  intro os
  kernel_rfl
theorem facts {P : Program} {w : World} {K : PySem.W.Frag} {h : Heap} {mg : Str → Option Value} {f : Addr} (X : K.In h) (G : h.Ns mainGlobals mg) (hfa : mg ("law" : Str) = some (.ref f)) (c : He.SaysD fa fn K) :
    ∃ fd : FuncData, (∀ (s : Shared) (v : Value), BindsTo s fd ⟨[v], []⟩ [("script", v)]) ∧ ∀ base : Heap, FnOk P w K mg base CX0 10 f fd ["script"] (spLaw K o_law) := by
  have m_all := He.free_ok X G (c.fact 63 (f := .free "all") rfl)
  have m_any := He.free_ok X G (c.fact 64 (f := .free "any") rfl)
  have m_bool := He.free_ok X G (c.fact 65 (f := .free "bool") rfl)
  have m_enumerate := He.free_ok X G (c.fact 66 (f := .free "enumerate") rfl)
  have m_int := He.free_ok X G (c.fact 67 (f := .free "int") rfl)
  have m_isinstance := He.free_ok X G (c.fact 68 (f := .free "isinstance") rfl)
  have m_len := He.free_ok X G (c.fact 69 (f := .free "len") rfl)
  have m_list := He.free_ok X G (c.fact 70 (f := .free "list") rfl)
  have m_max := He.free_ok X G (c.fact 71 (f := .free "max") rfl)
  have m_range := He.free_ok X G (c.fact 72 (f := .free "range") rfl)
  have m_sorted := He.free_ok X G (c.fact 73 (f := .free "sorted") rfl)
  have m_str := He.free_ok X G (c.fact 74 (f := .free "str") rfl)
  have m_sum := He.free_ok X G (c.fact 75 (f := .free "sum") rfl)
  have m_tuple := He.free_ok X G (c.fact 76 (f := .free "tuple") rfl)
  obtain ⟨t_MOST_POINTS, g_MOST_POINTS⟩ := He.int_ok X G (c.fact 77 (f := .int "MOST_POINTS" 7) rfl)
  obtain ⟨t_MOST_TOPS, g_MOST_TOPS⟩ := He.int_ok X G (c.fact 78 (f := .int "MOST_TOPS" 20) rfl)
  obtain ⟨fd_is_whole, D_is_whole⟩ := c.def_ 0 (d := dd "is_whole" 12) rfl
  obtain ⟨fd_is_many, D_is_many⟩ := c.def_ 1 (d := dd "is_many" 13) rfl
  obtain ⟨fd_check_many, D_check_many⟩ := c.def_ 2 (d := dd "check_many" 14) rfl
  obtain ⟨fd_is_lot_by, D_is_lot_by⟩ := c.def_ 3 (d := dd "is_lot_by" 15) rfl
  obtain ⟨fd_lots_of, D_lots_of⟩ := c.def_ 4 (d := dd "lots_of" 16) rfl
  obtain ⟨fd_is_within, D_is_within⟩ := c.def_ 5 (d := dd "is_within" 17) rfl
  obtain ⟨fd_is_complex_by, D_is_complex_by⟩ := c.def_ 6 (d := dd "is_complex_by" 18) rfl
  obtain ⟨fd_check_complex, D_check_complex⟩ := c.def_ 7 (d := dd "check_complex" 19) rfl
  obtain ⟨fd_many_in, D_many_in⟩ := c.def_ 8 (d := dd "many_in" 20) rfl
  obtain ⟨fd_tops_in, D_tops_in⟩ := c.def_ 9 (d := dd "tops_in" 21) rfl
  obtain ⟨fd_has_face, D_has_face⟩ := c.def_ 10 (d := dd "has_face" 22) rfl
  obtain ⟨fd_faces_by, D_faces_by⟩ := c.def_ 11 (d := dd "faces_by" 23) rfl
  obtain ⟨fd_faces_at, D_faces_at⟩ := c.def_ 12 (d := dd "faces_at" 24) rfl
  obtain ⟨fd_dimension_of, D_dimension_of⟩ := c.def_ 13 (d := dd "dimension_of" 25) rfl
  obtain ⟨fd_complex_of, D_complex_of⟩ := c.def_ 14 (d := dd "complex_of" 26) rfl
  obtain ⟨fd_is_face_by, D_is_face_by⟩ := c.def_ 15 (d := dd "is_face_by" 27) rfl
  obtain ⟨fd_check_face, D_check_face⟩ := c.def_ 16 (d := dd "check_face" 28) rfl
  obtain ⟨fd_check_dimension, D_check_dimension⟩ := c.def_ 17 (d := dd "check_dimension" 29) rfl
  obtain ⟨fd_is_complex, D_is_complex⟩ := c.def_ 18 (d := dd "is_complex" 31) rfl
  obtain ⟨fd_check_lots, D_check_lots⟩ := c.def_ 19 (d := dd "check_lots" 32) rfl
  obtain ⟨fd_checked, D_checked⟩ := c.def_ 20 (d := dd "checked" 33) rfl
  obtain ⟨fd_complex_with, D_complex_with⟩ := c.def_ 21 (d := dd "complex_with" 34) rfl
  obtain ⟨fd_all_faces, D_all_faces⟩ := c.def_ 22 (d := dd "all_faces" 35) rfl
  obtain ⟨fd_is_face, D_is_face⟩ := c.def_ 23 (d := dd "is_face" 36) rfl
  obtain ⟨fd_counts_by, D_counts_by⟩ := c.def_ 24 (d := dd "counts_by" 37) rfl
  obtain ⟨fd_face_counts, D_face_counts⟩ := c.def_ 25 (d := dd "face_counts" 38) rfl
  obtain ⟨fd_euler_by, D_euler_by⟩ := c.def_ 26 (d := dd "euler_by" 39) rfl
  obtain ⟨fd_euler_number, D_euler_number⟩ := c.def_ 27 (d := dd "euler_number" 40) rfl
  obtain ⟨fd_skeleton, D_skeleton⟩ := c.def_ 28 (d := dd "skeleton" 41) rfl
  obtain ⟨fd_is_even_topped, D_is_even_topped⟩ := c.def_ 29 (d := dd "is_even_topped" 42) rfl
  obtain ⟨fd_rest_of, D_rest_of⟩ := c.def_ 30 (d := dd "rest_of" 43) rfl
  obtain ⟨fd_link, D_link⟩ := c.def_ 31 (d := dd "link" 44) rfl
  obtain ⟨fd_star, D_star⟩ := c.def_ 32 (d := dd "star" 45) rfl
  obtain ⟨fd_without, D_without⟩ := c.def_ 33 (d := dd "without" 46) rfl
  obtain ⟨fd_shifted, D_shifted⟩ := c.def_ 34 (d := dd "shifted" 47) rfl
  obtain ⟨fd_check_room, D_check_room⟩ := c.def_ 35 (d := dd "check_room" 48) rfl
  obtain ⟨fd_joined_by, D_joined_by⟩ := c.def_ 36 (d := dd "joined_by" 49) rfl
  obtain ⟨fd_join, D_join⟩ := c.def_ 37 (d := dd "join" 50) rfl
  obtain ⟨fd_cone, D_cone⟩ := c.def_ 38 (d := dd "cone" 51) rfl
  obtain ⟨fd_hung, D_hung⟩ := c.def_ 39 (d := dd "hung" 52) rfl
  obtain ⟨fd_check_alike, D_check_alike⟩ := c.def_ 40 (d := dd "check_alike" 53) rfl
  obtain ⟨fd_union, D_union⟩ := c.def_ 41 (d := dd "union" 54) rfl
  obtain ⟨fd_meet, D_meet⟩ := c.def_ 42 (d := dd "meet" 55) rfl
  obtain ⟨fd_least_missing, D_least_missing⟩ := c.def_ 43 (d := dd "least_missing" 56) rfl
  obtain ⟨fd_complex_barring, D_complex_barring⟩ := c.def_ 44 (d := dd "complex_barring" 57) rfl
  obtain ⟨fd_is_flag, D_is_flag⟩ := c.def_ 45 (d := dd "is_flag" 58) rfl
  obtain ⟨fd_renamed, D_renamed⟩ := c.def_ 46 (d := dd "renamed" 59) rfl
  obtain ⟨fd_ball, D_ball⟩ := c.def_ 47 (d := dd "ball" 60) rfl
  obtain ⟨fd_sphere, D_sphere⟩ := c.def_ 48 (d := dd "sphere" 61) rfl
  obtain ⟨fd__law_hash, D__law_hash⟩ := c.def_ 49 (d := dd "_law_hash" 63) rfl
  obtain ⟨fd__law_random, D__law_random⟩ := c.def_ 50 (d := dd "_law_random" 64) rfl
  obtain ⟨fd__law_cell, D__law_cell⟩ := c.def_ 51 (d := dd "_law_cell" 65) rfl
  obtain ⟨fd__law_generator, D__law_generator⟩ := c.def_ 52 (d := dd "_law_generator" 66) rfl
  obtain ⟨fd__law_pick, D__law_pick⟩ := c.def_ 53 (d := dd "_law_pick" 67) rfl
  obtain ⟨fd__law_order, D__law_order⟩ := c.def_ 54 (d := dd "_law_order" 68) rfl
  obtain ⟨fd__law_within, D__law_within⟩ := c.def_ 55 (d := dd "_law_within" 69) rfl
  obtain ⟨fd__law_tops, D__law_tops⟩ := c.def_ 56 (d := dd "_law_tops" 70) rfl
  obtain ⟨fd__law_body, D__law_body⟩ := c.def_ 57 (d := dd "_law_body" 71) rfl
  obtain ⟨fd__law_body_right, D__law_body_right⟩ := c.def_ 58 (d := dd "_law_body_right" 72) rfl
  obtain ⟨fd__law_faces_right, D__law_faces_right⟩ := c.def_ 59 (d := dd "_law_faces_right" 73) rfl
  obtain ⟨fd__law_two_right, D__law_two_right⟩ := c.def_ 60 (d := dd "_law_two_right" 74) rfl
  obtain ⟨fd__law_right, D__law_right⟩ := c.def_ 61 (d := dd "_law_right" 75) rfl
  obtain ⟨fd_law, D_law⟩ := c.def_ 62 (d := dd "law" 76) rfl
  have e := hfa.symm.trans (He.glo_ok X G (c.fact 62 (f := .glo "law") rfl))
  cases e
  have b := FunD.bindsA (ps := ["script"]) D_law fun _ _ _ _ _ _ us hl => match us, hl with | [_], _ => rfl
  refine ⟨fd_law, fun s v => b s [v] rfl, fun base => ?_⟩
  have c_is_whole : Cal P w K mg base 1 "is_whole" 1 o_is_whole := ok_is_whole m_bool m_int m_isinstance D_is_whole (He.glo_ok X G (c.fact 0 (f := .glo "is_whole") rfl))
  have c_is_many : Cal P w K mg base 2 "is_many" 1 o_is_many := ok_is_many g_MOST_POINTS c_is_whole D_is_many (He.glo_ok X G (c.fact 1 (f := .glo "is_many") rfl))
  have c_check_many : Cal P w K mg base 3 "check_many" 1 o_check_many := ok_check_many c_is_many D_check_many (He.glo_ok X G (c.fact 2 (f := .glo "check_many") rfl))
  have c_is_lot_by : Cal P w K mg base 2 "is_lot_by" 2 o_is_lot_by := ok_is_lot_by m_all m_isinstance m_len m_list m_range c_is_whole D_is_lot_by (He.glo_ok X G (c.fact 3 (f := .glo "is_lot_by") rfl))
  have c_lots_of : Cal P w K mg base 1 "lots_of" 1 o_lots_of := ok_lots_of m_len m_range m_sorted D_lots_of (He.glo_ok X G (c.fact 4 (f := .glo "lots_of") rfl))
  have c_is_within : Cal P w K mg base 1 "is_within" 2 o_is_within := ok_is_within m_all D_is_within (He.glo_ok X G (c.fact 5 (f := .glo "is_within") rfl))
  have c_is_complex_by : Cal P w K mg base 3 "is_complex_by" 1 o_is_complex_by := ok_is_complex_by m_all m_any m_enumerate m_isinstance m_len m_list m_range m_str m_tuple g_MOST_TOPS c_is_many c_is_lot_by c_is_within D_is_complex_by (He.glo_ok X G (c.fact 6 (f := .glo "is_complex_by") rfl))
  have c_check_complex : Cal P w K mg base 4 "check_complex" 1 o_check_complex := ok_check_complex c_is_complex_by D_check_complex (He.glo_ok X G (c.fact 7 (f := .glo "check_complex") rfl))
  have c_many_in : Cal P w K mg base 1 "many_in" 1 o_many_in := ok_many_in D_many_in (He.glo_ok X G (c.fact 8 (f := .glo "many_in") rfl))
  have c_tops_in : Cal P w K mg base 1 "tops_in" 1 o_tops_in := ok_tops_in m_list D_tops_in (He.glo_ok X G (c.fact 9 (f := .glo "tops_in") rfl))
  have c_has_face : Cal P w K mg base 2 "has_face" 2 o_has_face := ok_has_face m_any c_is_within D_has_face (He.glo_ok X G (c.fact 10 (f := .glo "has_face") rfl))
  have c_faces_by : Cal P w K mg base 3 "faces_by" 1 o_faces_by := ok_faces_by c_lots_of c_has_face D_faces_by (He.glo_ok X G (c.fact 11 (f := .glo "faces_by") rfl))
  have c_faces_at : Cal P w K mg base 4 "faces_at" 2 o_faces_at := ok_faces_at m_len c_faces_by D_faces_at (He.glo_ok X G (c.fact 12 (f := .glo "faces_at") rfl))
  have c_dimension_of : Cal P w K mg base 1 "dimension_of" 1 o_dimension_of := ok_dimension_of m_len m_max D_dimension_of (He.glo_ok X G (c.fact 13 (f := .glo "dimension_of") rfl))
  have c_complex_of : Cal P w K mg base 2 "complex_of" 2 o_complex_of := ok_complex_of m_any m_list m_sorted c_is_within D_complex_of (He.glo_ok X G (c.fact 14 (f := .glo "complex_of") rfl))
  have c_is_face_by : Cal P w K mg base 3 "is_face_by" 2 o_is_face_by := ok_is_face_by c_has_face c_is_lot_by D_is_face_by (He.glo_ok X G (c.fact 15 (f := .glo "is_face_by") rfl))
  have c_check_face : Cal P w K mg base 4 "check_face" 2 o_check_face := ok_check_face c_is_face_by D_check_face (He.glo_ok X G (c.fact 16 (f := .glo "check_face") rfl))
  have c_check_dimension : Cal P w K mg base 2 "check_dimension" 1 o_check_dimension := ok_check_dimension g_MOST_POINTS c_is_whole D_check_dimension (He.glo_ok X G (c.fact 17 (f := .glo "check_dimension") rfl))
  have c_is_complex : Cal P w K mg base 4 "is_complex" 1 o_is_complex := ok_is_complex c_is_complex_by D_is_complex (He.glo_ok X G (c.fact 18 (f := .glo "is_complex") rfl))
  have c_check_lots : Cal P w K mg base 3 "check_lots" 2 o_check_lots := ok_check_lots m_all m_isinstance m_list c_is_lot_by D_check_lots (He.glo_ok X G (c.fact 19 (f := .glo "check_lots") rfl))
  have c_checked : Cal P w K mg base 1 "checked" 1 o_checked := ok_checked m_len g_MOST_TOPS D_checked (He.glo_ok X G (c.fact 20 (f := .glo "checked") rfl))
  have c_complex_with : Cal P w K mg base 4 "complex_with" 2 o_complex_with := ok_complex_with c_check_many c_check_lots c_checked c_complex_of D_complex_with (He.glo_ok X G (c.fact 21 (f := .glo "complex_with") rfl))
  have c_all_faces : Cal P w K mg base 5 "all_faces" 1 o_all_faces := ok_all_faces c_check_complex c_faces_by D_all_faces (He.glo_ok X G (c.fact 22 (f := .glo "all_faces") rfl))
  have c_is_face : Cal P w K mg base 5 "is_face" 2 o_is_face := ok_is_face c_check_complex c_is_face_by D_is_face (He.glo_ok X G (c.fact 23 (f := .glo "is_face") rfl))
  have c_counts_by : Cal P w K mg base 5 "counts_by" 1 o_counts_by := ok_counts_by m_len m_range c_dimension_of c_faces_at D_counts_by (He.glo_ok X G (c.fact 24 (f := .glo "counts_by") rfl))
  have c_face_counts : Cal P w K mg base 6 "face_counts" 1 o_face_counts := ok_face_counts c_check_complex c_counts_by D_face_counts (He.glo_ok X G (c.fact 25 (f := .glo "face_counts") rfl))
  have c_euler_by : Cal P w K mg base 6 "euler_by" 1 o_euler_by := ok_euler_by m_enumerate m_sum c_counts_by D_euler_by (He.glo_ok X G (c.fact 26 (f := .glo "euler_by") rfl))
  have c_euler_number : Cal P w K mg base 7 "euler_number" 1 o_euler_number := ok_euler_number c_check_complex c_euler_by D_euler_number (He.glo_ok X G (c.fact 27 (f := .glo "euler_number") rfl))
  have c_skeleton : Cal P w K mg base 5 "skeleton" 2 o_skeleton := ok_skeleton m_len c_check_complex c_check_dimension c_checked c_complex_of c_faces_by c_many_in D_skeleton (He.glo_ok X G (c.fact 28 (f := .glo "skeleton") rfl))
  have c_is_even_topped : Cal P w K mg base 5 "is_even_topped" 1 o_is_even_topped := ok_is_even_topped m_all m_len c_check_complex D_is_even_topped (He.glo_ok X G (c.fact 29 (f := .glo "is_even_topped") rfl))
  have c_rest_of : Cal P w K mg base 1 "rest_of" 2 o_rest_of := ok_rest_of D_rest_of (He.glo_ok X G (c.fact 30 (f := .glo "rest_of") rfl))
  have c_link : Cal P w K mg base 5 "link" 2 o_link := ok_link c_check_complex c_check_face c_complex_of c_is_within c_rest_of c_many_in D_link (He.glo_ok X G (c.fact 31 (f := .glo "link") rfl))
  have c_star : Cal P w K mg base 5 "star" 2 o_star := ok_star c_check_complex c_check_face c_complex_of c_is_within c_many_in D_star (He.glo_ok X G (c.fact 32 (f := .glo "star") rfl))
  have c_without : Cal P w K mg base 5 "without" 2 o_without := ok_without c_check_complex c_check_face c_checked c_complex_of c_faces_by c_is_within c_many_in D_without (He.glo_ok X G (c.fact 33 (f := .glo "without") rfl))
  have c_shifted : Cal P w K mg base 1 "shifted" 2 o_shifted := ok_shifted D_shifted (He.glo_ok X G (c.fact 34 (f := .glo "shifted") rfl))
  have c_check_room : Cal P w K mg base 1 "check_room" 1 o_check_room := ok_check_room g_MOST_POINTS D_check_room (He.glo_ok X G (c.fact 35 (f := .glo "check_room") rfl))
  have c_joined_by : Cal P w K mg base 3 "joined_by" 3 o_joined_by := ok_joined_by m_int c_many_in c_shifted c_checked c_complex_of D_joined_by (He.glo_ok X G (c.fact 36 (f := .glo "joined_by") rfl))
  have c_join : Cal P w K mg base 5 "join" 2 o_join := ok_join c_check_complex c_check_room c_many_in c_joined_by c_tops_in D_join (He.glo_ok X G (c.fact 37 (f := .glo "join") rfl))
  have c_cone : Cal P w K mg base 5 "cone" 1 o_cone := ok_cone c_check_complex c_check_room c_many_in c_joined_by D_cone (He.glo_ok X G (c.fact 38 (f := .glo "cone") rfl))
  have c_hung : Cal P w K mg base 5 "hung" 1 o_hung := ok_hung c_check_complex c_check_room c_many_in c_joined_by D_hung (He.glo_ok X G (c.fact 39 (f := .glo "hung") rfl))
  have c_check_alike : Cal P w K mg base 5 "check_alike" 2 o_check_alike := ok_check_alike c_check_complex c_many_in D_check_alike (He.glo_ok X G (c.fact 40 (f := .glo "check_alike") rfl))
  have c_union : Cal P w K mg base 6 "union" 2 o_union := ok_union c_check_alike c_checked c_complex_of c_tops_in c_many_in D_union (He.glo_ok X G (c.fact 41 (f := .glo "union") rfl))
  have c_meet : Cal P w K mg base 6 "meet" 2 o_meet := ok_meet c_check_alike c_checked c_complex_of c_faces_by c_has_face c_many_in D_meet (He.glo_ok X G (c.fact 42 (f := .glo "meet") rfl))
  have c_least_missing : Cal P w K mg base 5 "least_missing" 1 o_least_missing := ok_least_missing m_any c_check_complex c_lots_of c_many_in c_is_within c_has_face D_least_missing (He.glo_ok X G (c.fact 43 (f := .glo "least_missing") rfl))
  have c_complex_barring : Cal P w K mg base 4 "complex_barring" 2 o_complex_barring := ok_complex_barring m_any c_check_many c_check_lots c_lots_of c_is_within c_checked c_complex_of D_complex_barring (He.glo_ok X G (c.fact 44 (f := .glo "complex_barring") rfl))
  have c_is_flag : Cal P w K mg base 6 "is_flag" 1 o_is_flag := ok_is_flag m_all m_len c_least_missing D_is_flag (He.glo_ok X G (c.fact 45 (f := .glo "is_flag") rfl))
  have c_renamed : Cal P w K mg base 5 "renamed" 2 o_renamed := ok_renamed m_all m_isinstance m_list m_range m_sorted c_check_complex c_is_whole c_many_in D_renamed (He.glo_ok X G (c.fact 46 (f := .glo "renamed") rfl))
  have c_ball : Cal P w K mg base 4 "ball" 1 o_ball := ok_ball m_list m_range c_check_many D_ball (He.glo_ok X G (c.fact 47 (f := .glo "ball") rfl))
  have c_sphere : Cal P w K mg base 4 "sphere" 1 o_sphere := ok_sphere m_len c_check_many c_complex_of c_lots_of D_sphere (He.glo_ok X G (c.fact 48 (f := .glo "sphere") rfl))
  have c__law_hash : Cal P w K mg base 1 "_law_hash" 2 o__law_hash := ok__law_hash m_int D__law_hash (He.glo_ok X G (c.fact 49 (f := .glo "_law_hash") rfl))
  have c__law_random : CalG P w K mg base 2 "_law_random" 1 o__law_random := ok__law_random m_int m_range c__law_hash D__law_random (He.glo_ok X G (c.fact 50 (f := .glo "_law_random") rfl))
  have c__law_cell : Cal P w K mg base 1 "_law_cell" 2 o__law_cell := ok__law_cell m_len m_sum D__law_cell (He.glo_ok X G (c.fact 51 (f := .glo "_law_cell") rfl))
  have c__law_generator : CalN P w K mg base 2 "_law_generator" 2 o__law_generator := ok__law_generator m_int m_max c__law_cell D__law_generator (He.glo_ok X G (c.fact 52 (f := .glo "_law_generator") rfl))
  have c__law_pick : CalG P w K mg base 3 "_law_pick" 1 o__law_pick := ok__law_pick m_len c__law_random D__law_pick (He.glo_ok X G (c.fact 53 (f := .glo "_law_pick") rfl))
  have c__law_order : CalG P w K mg base 3 "_law_order" 1 o__law_order := ok__law_order m_len m_list m_range c__law_random D__law_order (He.glo_ok X G (c.fact 54 (f := .glo "_law_order") rfl))
  have c__law_within : Cal P w K mg base 1 "_law_within" 2 o__law_within := ok__law_within D__law_within (He.glo_ok X G (c.fact 55 (f := .glo "_law_within") rfl))
  have c__law_tops : Cal P w K mg base 2 "_law_tops" 1 o__law_tops := ok__law_tops m_sorted c__law_within D__law_tops (He.glo_ok X G (c.fact 56 (f := .glo "_law_tops") rfl))
  have c__law_body : CalG P w K mg base 4 "_law_body" 1 o__law_body := ok__law_body m_list m_range m_sorted c__law_random c__law_pick c__law_order c__law_tops D__law_body (He.glo_ok X G (c.fact 57 (f := .glo "_law_body") rfl))
  have c__law_body_right : CalG P w K mg base 8 "_law_body_right" 1 o__law_body_right := ok__law_body_right m_len m_list m_range m_sum c_all_faces c_is_complex c_complex_barring c_least_missing c_complex_with c_is_face c_face_counts c_skeleton c_meet c_union c_cone c_euler_number c_hung c__law_order c_is_flag c_renamed D__law_body_right (He.glo_ok X G (c.fact 58 (f := .glo "_law_body_right") rfl))
  have c__law_faces_right : CalG P w K mg base 6 "_law_faces_right" 1 o__law_faces_right := ok__law_faces_right m_len m_sorted c__law_order c_all_faces c_link c_complex_with c_star c_without D__law_faces_right (He.glo_ok X G (c.fact 59 (f := .glo "_law_faces_right") rfl))
  have c__law_two_right : Cal P w K mg base 7 "_law_two_right" 2 o__law_two_right := ok__law_two_right m_len m_list m_range c_join c_all_faces c_renamed c_is_flag c_is_even_topped D__law_two_right (He.glo_ok X G (c.fact 60 (f := .glo "_law_two_right") rfl))
  have c__law_right : CalG P w K mg base 9 "_law_right" 0 o__law_right := ok__law_right c__law_body c__law_two_right c__law_faces_right c__law_body_right c__law_random c_euler_number c_ball c_sphere c_skeleton D__law_right (He.glo_ok X G (c.fact 61 (f := .glo "_law_right") rfl))
  exact law_end (fn_law m_range c__law_generator c__law_right D_law)
end K09
open PySem PySem.W PySem.Calls PyProof.Rows
theorem K09.holds_of (main : ∀ ns : List Int, ns.length ≤ 63 → K09.o_law [DD.scD ns] = some (.ok (.bool true))) : PySem.Challenge.rw_holestold_k09_whole_complexes_go_along.Holds := by
  w_on; o_law
  refine HandSHeadRun.head_any (r := OpenLaw.row PySem.Challenge.rw_holestold_k09_whole_complexes_go_along) (q := view (OpenLaw.row PySem.Challenge.rw_holestold_k09_whole_complexes_go_along).prog [76]) (H := K09.hk) (ob := K09.ob) (M := 6000) (loose := K09.loose) (d := HandSHeadRun.topDef (OpenLaw.row PySem.Challenge.rw_holestold_k09_whole_complexes_go_along).prog 76) (kwd := []) K09.ob_eq
    (by kernel_rfl) (fun s => by kernel_rfl) K09.run (by kernel_rfl) (by kernel_rfl) (by kernel_rfl) (by rfl) (by first | assumption | decide +kernel) (by decide +kernel) ⟨rfl, rfl, rfl, rfl, rfl, by decide +kernel⟩ ?hw ?hc
  case hw => w_witness2
  case hc =>
    refine L2.walk_ofE (l := PySem.Challenge.rw_holestold_k09_whole_complexes_go_along) (n := 63) (k := 10) (x := "script") (CX := L2.CX0) rfl (by decide) (by kernel_rfl) ⟨rfl, by decide, by decide⟩ ?F (fun _ _ _ _ z => z)
    intro w mg fa h Y G hmg0
    obtain ⟨K, KX, c⟩ := Y
    have hmg : mg ("law" : PySem.Str) = some (.ref fa) := by
      have e : (HandSHeadRun.topDef (OpenLaw.row PySem.Challenge.rw_holestold_k09_whole_complexes_go_along).prog 76).name = ("law" : PySem.Str) := by kernel_rfl
      rw [← e]
      exact hmg0
    obtain ⟨fd, hb, hF⟩ := K09.facts (P := (PySem.Challenge.rw_holestold_k09_whole_complexes_go_along).prog) (w := w) KX G hmg c
    exact ⟨K, fd, DD.spLaw K K09.o_law, KX, hb, fun H a ns hl hO hS => ⟨a, ns, rfl, hO, hS, main ns hl, fun _ => rfl⟩, fun base _ _ => hF base⟩
end
set_option maxRecDepth 100000 in
theorem PySem.Challenge.cw_holestold_k09_whole_complexes_go_along_holds : PySem.Challenge.rw_holestold_k09_whole_complexes_go_along.Holds := by
  exact K09.holds_of K09.main
