import PyProof.Rows.All
import Wide.All
import OpenK.AllK
import Wide.FinOn
import HandS.ForMost
import HandS.More
import HandS.Defaults
import HandS.IsInst
import HandS.TupAny
import HandS.Deep
import HandS.Conv
import PyProof.CollectIter
import KE.KUnpack
import HandS.CallLocal
import HandS.TryOnly
import HandS.Zip
import HandS.SetKeys
import HandS.SortKw
import KE.GoesEnumKw
import HandS.Style
import HandS.HeadHook4
import HandS.Head0
import HandS.Head1
import HandS.Head2
import HandS.HeadEnd
import HandS.HeadHook1
import HandS.HeadHook2
import PySem.Challenge.RW_blocksearch_k69_disks_crash
import HandS.ForExc
import HandS.ExcCtx
import HandS.HotCalls
import HandS.ExcIs
import HandS.SetFor
import HandS.FStr
import KE.KCallOwn
import HandS.Lambda
import HandS.ExcInit
import HandS.ExcField
import KE.KExcInit
import KE.KTryMore
import KE.KExcIs
import HandS.StrMore
import HandS.IntHex
import HandS.NestedK
import HandS.HeadHook3
import HandS.CallSlots
import HandS.WordsDict
import HandS.Small
import PyProof.AssignAttr
import KE.GoesEnum
import PyProof.Draws
import HandS.Text
import HandS.Codes
import PyProof.StrLawsLast
import PyProof.Rows.StrCase
import PyProof.Rows.StrMeet
import HandS.HeadWalk
section
set_option Elab.async false
set_option linter.all false
set_option maxRecDepth 100000
set_option maxHeartbeats 4000000
/-! L3: values with data by value over the hand layer. D: data (lists, tuples, dicts that nobody changes stand by value; .ref a is a thing that may change, told by G). -/
namespace L3
open PySem PySem.Spec PyProof.Rows L2

inductive D where
  | non | bl (b : Bool) | int (i : Int) | str (x : Str) | ty (n : String) | ref (a : Addr)
  | lst (xs : List D) | tup (xs : List D) | dic (kvs : List (Key × D)) | ins (C : Addr) (fs : List (Str × D)) | scr (ns : List Int)
instance : Inhabited D := ⟨.non⟩

/-- what stands still at a -/
def Stl (Fz : Addr → Prop) (H : Hp) (a : Addr) (o : HO) : Prop := Fz a ∧ H a = some o
def LstK (K : PySem.W.Frag) (a : Addr) (xs : List V) : Prop :=
  ∃ (o : Obj) (its : Array Value) (n : Nat), K.lookup a = some o ∧ o.cls = .type "list" ∧ o.dict = none ∧ o.data = .seq its n ∧ its.size ≤ sizeLine ∧ Vals xs its.toList
def TupK (K : PySem.W.Frag) (a : Addr) (xs : List V) : Prop :=
  ∃ (o : Obj) (its : Array Value) (n : Nat), K.lookup a = some o ∧ o.cls = .type "tuple" ∧ o.data = .seq its n ∧ its.size ≤ sizeLine ∧ Vals xs its.toList

section
variable (K : PySem.W.Frag)
inductive Rep (Fz : Addr → Prop) (H : Hp) : V → D → Prop
  | non : Rep Fz H .non .non
  | bl (b : Bool) : Rep Fz H (.bl b) (.bl b)
  | int (i : Int) : Rep Fz H (.int i) (.int i)
  | str (x : Str) : Rep Fz H (.str x) (.str x)
  | ty (n : String) : Rep Fz H (.ty n) (.ty n)
  | ref (a : Addr) : Rep Fz H (.ref a) (.ref a)
  | lst (a : Addr) (vs : List V) (ds : List D) (h : Stl Fz H a (.lst vs)) (hl : vs.length = ds.length)
      (hi : ∀ (i : Nat) (v : V) (d : D), vs[i]? = some v → ds[i]? = some d → Rep Fz H v d) : Rep Fz H (.ref a) (.lst ds)
  | tup (a : Addr) (vs : List V) (ds : List D) (h : Stl Fz H a (.tup vs) ∨ TupK K a vs) (hl : vs.length = ds.length)
      (hi : ∀ (i : Nat) (v : V) (d : D), vs[i]? = some v → ds[i]? = some d → Rep Fz H v d) : Rep Fz H (.ref a) (.tup ds)
  | dic (a : Addr) (kvs : List (Key × V)) (ds : List (Key × D)) (h : Stl Fz H a (.dK kvs)) (hk : kvs.map (·.1) = ds.map (·.1))
      (hi : ∀ (i : Nat) (p : Key × V) (q : Key × D), kvs[i]? = some p → ds[i]? = some q → Rep Fz H p.2 q.2) : Rep Fz H (.ref a) (.dic ds)
  | ins (a C dx : Addr) (fs : List (Str × V)) (ds : List (Str × D)) (h : Stl Fz H a (.ins C dx fs)) (hk : fs.map (·.1) = ds.map (·.1))
      (hi : ∀ (i : Nat) (p : Str × V) (q : Str × D), fs[i]? = some p → ds[i]? = some q → Rep Fz H p.2 q.2) : Rep Fz H (.ref a) (.ins C ds)
  | scr (a : Addr) (ns : List Int) (h : (∃ o : Obj, Stl Fz H a (.frz o (.lst (ns.map V.int)))) ∨ LstK K a (ns.map V.int)) : Rep Fz H (.ref a) (.scr ns)
end

/-- lists of things -/
structure Reps (K : PySem.W.Frag) (Fz : Addr → Prop) (H : Hp) (vs : List V) (ds : List D) : Prop where
  len : vs.length = ds.length
  at_ : ∀ (i : Nat) (v : V) (d : D), vs[i]? = some v → ds[i]? = some d → Rep K Fz H v d
structure RepKs {κ : Type} (K : PySem.W.Frag) (Fz : Addr → Prop) (H : Hp) (vs : List (κ × V)) (ds : List (κ × D)) : Prop where
  keys : vs.map (·.1) = ds.map (·.1)
  at_ : ∀ (i : Nat) (p : κ × V) (q : κ × D), vs[i]? = some p → ds[i]? = some q → Rep K Fz H p.2 q.2

/-- what was still stays so -/
def Ext (Fz : Addr → Prop) (H : Hp) (Fz' : Addr → Prop) (H' : Hp) : Prop := ∀ a, Fz a → Fz' a ∧ H' a = H a
section
variable {K : PySem.W.Frag} {Fz Fz' Fz'' : Addr → Prop} {H H' H'' : Hp}
theorem Ext.refl : Ext Fz H Fz H := fun _ h => ⟨h, rfl⟩
theorem Ext.trans (a : Ext Fz H Fz' H') (b : Ext Fz' H' Fz'' H'') : Ext Fz H Fz'' H'' := fun c h =>
  ⟨(b c (a c h).1).1, (b c (a c h).1).2.trans (a c h).2⟩
theorem Stl.ext {a : Addr} {o : HO} (h : Stl Fz H a o) (e : Ext Fz H Fz' H') : Stl Fz' H' a o := by
  obtain ⟨f, r⟩ := h
  obtain ⟨f', e'⟩ := e a f
  exact ⟨f', e'.trans r⟩
theorem Rep.ext {v : V} {d : D} (r : Rep K Fz H v d) (e : Ext Fz H Fz' H') : Rep K Fz' H' v d := by
  induction r with
  | non => exact .non
  | bl b => exact .bl b
  | int i => exact .int i
  | str x => exact .str x
  | ty n => exact .ty n
  | ref a => exact .ref a
  | lst a vs ds h hl hi ih => exact .lst a vs ds (h.ext e) hl ih
  | tup a vs ds h hl hi ih => exact .tup a vs ds (h.imp (fun h => h.ext e) id) hl ih
  | dic a kvs ds h hk hi ih => exact .dic a kvs ds (h.ext e) hk ih
  | ins a C dx fs ds h hk hi ih => exact .ins a C dx fs ds (h.ext e) hk ih
  | scr a ns h => exact .scr a ns (h.imp (fun ⟨o, h⟩ => ⟨o, h.ext e⟩) id)
theorem Reps.ext {vs : List V} {ds : List D} (r : Reps K Fz H vs ds) (e : Ext Fz H Fz' H') : Reps K Fz' H' vs ds := ⟨r.len, fun i v d a b => (r.at_ i v d a b).ext e⟩
theorem RepKs.ext {κ : Type} {vs : List (κ × V)} {ds : List (κ × D)} (r : RepKs K Fz H vs ds) (e : Ext Fz H Fz' H') : RepKs K Fz' H' vs ds := ⟨r.keys, fun i v d a b => (r.at_ i v d a b).ext e⟩
theorem Reps.nil : Reps K Fz H [] [] := ⟨rfl, fun i v d a _ => by simp at a⟩
theorem Reps.cons {v : V} {d : D} {vs : List V} {ds : List D} (r : Rep K Fz H v d) (q : Reps K Fz H vs ds) : Reps K Fz H (v :: vs) (d :: ds) :=
  ⟨by rw [List.length_cons, List.length_cons, q.len], fun i w e a b => match i with
    | 0 => by
      have e1 : v = w := Option.some.inj (by simpa using a)
      have e2 : d = e := Option.some.inj (by simpa using b)
      subst e1 e2; exact r
    | i + 1 => q.at_ i w e (by simpa using a) (by simpa using b)⟩
theorem Reps.head {v : V} {d : D} {vs : List V} {ds : List D} (r : Reps K Fz H (v :: vs) (d :: ds)) : Rep K Fz H v d := r.at_ 0 v d rfl rfl
theorem Reps.tail {v : V} {d : D} {vs : List V} {ds : List D} (r : Reps K Fz H (v :: vs) (d :: ds)) : Reps K Fz H vs ds :=
  ⟨by have := r.len; simpa using this, fun i w e a b => r.at_ (i + 1) w e (by simpa using a) (by simpa using b)⟩
theorem Reps.inv_nil {vs : List V} (r : Reps K Fz H vs []) : vs = [] := List.length_eq_zero_iff.mp r.len
theorem Reps.inv_cons {vs : List V} {d : D} {ds : List D} (r : Reps K Fz H vs (d :: ds)) : ∃ v ws, vs = v :: ws ∧ Rep K Fz H v d ∧ Reps K Fz H ws ds := by
  cases vs with
  | nil => exact absurd r.len (by simp)
  | cons v ws => exact ⟨v, ws, rfl, r.head, r.tail⟩
theorem Reps.get {vs : List V} {ds : List D} (r : Reps K Fz H vs ds) {i : Nat} {d : D} (h : ds[i]? = some d) : ∃ v, vs[i]? = some v ∧ Rep K Fz H v d := by
  have hi : i < ds.length := (List.getElem?_eq_some_iff.mp h).1
  have hv : i < vs.length := by rw [r.len]; exact hi
  exact ⟨vs[i], by simp [hv], r.at_ i _ d (by simp [hv]) h⟩
theorem Reps.getV {vs : List V} {ds : List D} (r : Reps K Fz H vs ds) {i : Nat} {v : V} (h : vs[i]? = some v) : ∃ d, ds[i]? = some d ∧ Rep K Fz H v d := by
  have hi : i < vs.length := (List.getElem?_eq_some_iff.mp h).1
  have hv : i < ds.length := by rw [← r.len]; exact hi
  exact ⟨ds[i], by simp [hv], r.at_ i v _ h (by simp [hv])⟩
theorem Reps.append {vs ws : List V} {ds es : List D} (r : Reps K Fz H vs ds) (q : Reps K Fz H ws es) : Reps K Fz H (vs ++ ws) (ds ++ es) := by
  refine ⟨by rw [List.length_append, List.length_append, r.len, q.len], fun i v d a b => ?_⟩
  by_cases h : i < vs.length
  · rw [List.getElem?_append_left h] at a
    rw [List.getElem?_append_left (by rw [← r.len]; exact h)] at b
    exact r.at_ i v d a b
  · rw [List.getElem?_append_right (by omega)] at a
    rw [List.getElem?_append_right (by rw [← r.len]; omega), ← r.len] at b
    exact q.at_ _ v d a b
theorem Reps.one {v : V} {d : D} (r : Rep K Fz H v d) : Reps K Fz H [v] [d] := .cons r .nil
theorem Reps.set {vs : List V} {ds : List D} (r : Reps K Fz H vs ds) {v : V} {d : D} (q : Rep K Fz H v d) (j : Nat) : Reps K Fz H (vs.set j v) (ds.set j d) := by
  refine ⟨by rw [List.length_set, List.length_set, r.len], fun i w e a b => ?_⟩
  rw [List.getElem?_set] at a b
  by_cases h : j = i
  · rw [if_pos h] at a b
    split at a
    · split at b
      · cases a; cases b; exact q
      · cases b
    · cases a
  · rw [if_neg h] at a b
    exact r.at_ i w e a b
theorem Reps.take {vs : List V} {ds : List D} (r : Reps K Fz H vs ds) (n : Nat) : Reps K Fz H (vs.take n) (ds.take n) := by
  refine ⟨by simp [r.len], fun i w e a b => ?_⟩
  rw [List.getElem?_take] at a b
  split at a
  · rename_i h
    rw [if_pos h] at b
    exact r.at_ i w e a b
  · cases a
theorem Reps.drop {vs : List V} {ds : List D} (r : Reps K Fz H vs ds) (n : Nat) : Reps K Fz H (vs.drop n) (ds.drop n) := by
  refine ⟨by simp [r.len], fun i w e a b => ?_⟩
  rw [List.getElem?_drop] at a b
  exact r.at_ _ w e a b
theorem RepKs.len {κ : Type} {vs : List (κ × V)} {ds : List (κ × D)} (r : RepKs K Fz H vs ds) : vs.length = ds.length := by
  have := congrArg List.length r.keys
  simpa using this
end

/-! ### things that may change -/
inductive GO where
  | lst (xs : List D) | dic (kvs : List (Key × D)) | ins (C : Addr) (fs : List (Str × D)) | xd (fs : List (Str × D)) | raw (o : HO)
abbrev Gp := Addr → Option GO
def gup (G : Gp) (a : Addr) (o : GO) : Gp := fun b => if b = a then some o else G b
def gdel (G : Gp) (a : Addr) : Gp := fun b => if b = a then none else G b
theorem gup_same {G : Gp} {a : Addr} {o : GO} : gup G a o a = some o := by unfold gup; rw [if_pos rfl]
theorem gup_ne {G : Gp} {a b : Addr} {o : GO} (h : b ≠ a) : gup G a o b = G b := by unfold gup; rw [if_neg h]
theorem gup_gup {G : Gp} {a : Addr} {o u : GO} : gup (gup G a o) a u = gup G a u := by funext b; unfold gup; split <;> rfl
theorem gdel_same {G : Gp} {a : Addr} : gdel G a a = none := by unfold gdel; rw [if_pos rfl]
theorem gdel_ne {G : Gp} {a b : Addr} (h : b ≠ a) : gdel G a b = G b := by unfold gdel; rw [if_neg h]
theorem gdel_gup {G : Gp} {a : Addr} {o : GO} (h : G a = none) : gdel (gup G a o) a = G := by
  funext b; unfold gdel gup; split
  · rename_i e; rw [e, h]
  · rfl
theorem g_ne {G : Gp} {a b : Addr} {o : GO} (h : G a = some o) (h' : G b = none) : a ≠ b := by
  intro e; subst e; rw [h] at h'; cases h'

def GoRel (K : PySem.W.Frag) (Fz : Addr → Prop) (H : Hp) (a : Addr) : GO → Prop
  | .lst ds => ∃ vs, H a = some (.lst vs) ∧ Reps K Fz H vs ds
  | .dic ds => ∃ kvs, H a = some (.dK kvs) ∧ RepKs K Fz H kvs ds
  | .ins C ds => ∃ dx fs, H a = some (.ins C dx fs) ∧ RepKs K Fz H fs ds
  | .xd ds => ∃ fs, H a = some (.xd fs) ∧ RepKs K Fz H fs ds
  | .raw o => H a = some o
structure HRel (K : PySem.W.Frag) (Fz : Addr → Prop) (H : Hp) (G : Gp) : Prop where
  go : ∀ a o, G a = some o → ¬ Fz a ∧ GoRel K Fz H a o
  fz : ∀ a, Fz a → ∃ o, H a = some o
section
variable {K : PySem.W.Frag} {Fz Fz' : Addr → Prop} {H H' : Hp} {G : Gp} {a p : Addr}
theorem GoRel.ext {o : GO} (r : GoRel K Fz H a o) (e : Ext Fz H Fz' H') (ha : H' a = H a) : GoRel K Fz' H' a o := by
  cases o with
  | lst ds => obtain ⟨vs, h, q⟩ := r; exact ⟨vs, ha.trans h, q.ext e⟩
  | dic ds => obtain ⟨vs, h, q⟩ := r; exact ⟨vs, ha.trans h, q.ext e⟩
  | ins C ds => obtain ⟨dx, vs, h, q⟩ := r; exact ⟨dx, vs, ha.trans h, q.ext e⟩
  | xd ds => obtain ⟨vs, h, q⟩ := r; exact ⟨vs, ha.trans h, q.ext e⟩
  | raw o => exact ha.trans r
theorem GoRel.there {o : GO} (r : GoRel K Fz H a o) : ∃ u, H a = some u := by
  cases o with
  | lst ds => obtain ⟨vs, h, q⟩ := r; exact ⟨_, h⟩
  | dic ds => obtain ⟨vs, h, q⟩ := r; exact ⟨_, h⟩
  | ins C ds => obtain ⟨dx, vs, h, q⟩ := r; exact ⟨_, h⟩
  | xd ds => obtain ⟨vs, h, q⟩ := r; exact ⟨_, h⟩
  | raw o => exact ⟨_, r⟩
theorem HRel.free (h : HRel K Fz H G) (hp : H p = none) : G p = none := by
  cases e : G p with
  | none => rfl
  | some o => obtain ⟨_, r⟩ := h.go p o e; obtain ⟨u, hu⟩ := r.there; rw [hp] at hu; cases hu
theorem HRel.nfz (h : HRel K Fz H G) (hp : H p = none) : ¬ Fz p := fun f => by
  obtain ⟨o, e⟩ := h.fz p f; rw [hp] at e; cases e
/-- a new object p is laid: still -/
def fzup (Fz : Addr → Prop) (p : Addr) : Addr → Prop := fun a => a = p ∨ Fz a
theorem Ext.new {o : HO} (h : HRel K Fz H G) (hp : H p = none) : Ext Fz H (fzup Fz p) (upd H p o) := fun a f =>
  ⟨.inr f, by rw [upd_ne]; rintro rfl; exact h.nfz hp f⟩
theorem HRel.new {o : HO} (h : HRel K Fz H G) (hp : H p = none) : HRel K (fzup Fz p) (upd H p o) G := by
  refine ⟨fun a u e => ?_, fun a f => ?_⟩
  · obtain ⟨n, r⟩ := h.go a u e
    have ne : a ≠ p := by rintro rfl; obtain ⟨u, hu⟩ := r.there; rw [hp] at hu; cases hu
    exact ⟨fun f => f.elim ne n, r.ext (Ext.new h hp) (upd_ne ne)⟩
  · by_cases ne : a = p
    · subst ne; exact ⟨_, upd_same⟩
    · rw [upd_ne ne]; exact h.fz a (f.resolve_left ne)
/-- .. that may change -/
theorem Ext.newG {o : HO} (h : HRel K Fz H G) (hp : H p = none) : Ext Fz H Fz (upd H p o) := fun a f =>
  ⟨f, by rw [upd_ne]; rintro rfl; exact h.nfz hp f⟩
theorem HRel.newG {o : HO} {g : GO} (h : HRel K Fz H G) (hp : H p = none) (r : GoRel K Fz (upd H p o) p g) : HRel K Fz (upd H p o) (gup G p g) := by
  refine ⟨fun a u e => ?_, fun a f => ?_⟩
  · by_cases ne : a = p
    · subst ne
      rw [gup_same] at e; cases e
      exact ⟨h.nfz hp, r⟩
    · rw [gup_ne ne] at e
      obtain ⟨n, r⟩ := h.go a u e
      exact ⟨n, r.ext (Ext.newG h hp) (upd_ne ne)⟩
  · by_cases ne : a = p
    · subst ne; exact ⟨_, upd_same⟩
    · rw [upd_ne ne]; exact h.fz a f
/-- a thing is written -/
theorem Ext.wr {o : HO} {u : GO} (h : HRel K Fz H G) (hp : G p = some u) : Ext Fz H Fz (upd H p o) := fun a f =>
  ⟨f, by rw [upd_ne]; rintro rfl; exact (h.go _ _ hp).1 f⟩
theorem HRel.wr {o : HO} {u g : GO} (h : HRel K Fz H G) (hp : G p = some u) (r : GoRel K Fz (upd H p o) p g) : HRel K Fz (upd H p o) (gup G p g) := by
  refine ⟨fun a v e => ?_, fun a f => ?_⟩
  · by_cases ne : a = p
    · subst ne
      rw [gup_same] at e; cases e
      exact ⟨(h.go _ _ hp).1, r⟩
    · rw [gup_ne ne] at e
      obtain ⟨n, r⟩ := h.go a v e
      exact ⟨n, r.ext (Ext.wr h hp) (upd_ne ne)⟩
  · by_cases ne : a = p
    · subst ne; exact ⟨_, upd_same⟩
    · rw [upd_ne ne]; exact h.fz a f
/-- a thing stands still from now on -/
theorem Ext.frz : Ext Fz H (fzup Fz p) H := fun a f => ⟨.inr f, rfl⟩
theorem HRel.frz {u : GO} (h : HRel K Fz H G) (hp : G p = some u) : HRel K (fzup Fz p) H (gdel G p) := by
  refine ⟨fun a v e => ?_, fun a f => ?_⟩
  · have ne : a ≠ p := by rintro rfl; rw [gdel_same] at e; cases e
    rw [gdel_ne ne] at e
    obtain ⟨n, r⟩ := h.go a v e
    exact ⟨fun f => f.elim ne n, r.ext Ext.frz rfl⟩
  · rcases f with rfl | f
    · exact (h.go _ _ hp).2.there
    · exact h.fz a f
/-- one thing less is told -/
theorem HRel.less (h : HRel K Fz H G) : HRel K Fz H (gdel G p) := by
  refine ⟨fun a v e => ?_, h.fz⟩
  have ne : a ≠ p := by rintro rfl; rw [gdel_same] at e; cases e
  rw [gdel_ne ne] at e
  exact h.go a v e
end

/-! ### what is by data -/
section
variable {K : PySem.W.Frag} {Fz : Addr → Prop} {H : Hp} {v : V}
theorem Rep.inv_non (r : Rep K Fz H v .non) : v = .non := by cases r; rfl
theorem Rep.inv_bl {b : Bool} (r : Rep K Fz H v (.bl b)) : v = .bl b := by cases r; rfl
theorem Rep.inv_int {i : Int} (r : Rep K Fz H v (.int i)) : v = .int i := by cases r; rfl
theorem Rep.inv_str {x : Str} (r : Rep K Fz H v (.str x)) : v = .str x := by cases r; rfl
theorem Rep.inv_ty {n : String} (r : Rep K Fz H v (.ty n)) : v = .ty n := by cases r; rfl
theorem Rep.inv_ref {a : Addr} (r : Rep K Fz H v (.ref a)) : v = .ref a := by cases r; rfl
theorem Rep.inv_lst {ds : List D} (r : Rep K Fz H v (.lst ds)) : ∃ a vs, v = .ref a ∧ Stl Fz H a (.lst vs) ∧ Reps K Fz H vs ds := by
  cases r with
  | lst a vs ds h hl hi => exact ⟨a, vs, rfl, h, ⟨hl, hi⟩⟩
theorem Rep.inv_tup {ds : List D} (r : Rep K Fz H v (.tup ds)) : ∃ a vs, v = .ref a ∧ (Stl Fz H a (.tup vs) ∨ TupK K a vs) ∧ Reps K Fz H vs ds := by
  cases r with
  | tup a vs ds h hl hi => exact ⟨a, vs, rfl, h, ⟨hl, hi⟩⟩
theorem Rep.inv_dic {ds : List (Key × D)} (r : Rep K Fz H v (.dic ds)) : ∃ a vs, v = .ref a ∧ Stl Fz H a (.dK vs) ∧ RepKs K Fz H vs ds := by
  cases r with
  | dic a vs ds h hk hi => exact ⟨a, vs, rfl, h, ⟨hk, hi⟩⟩
theorem Rep.inv_ins {C : Addr} {ds : List (Str × D)} (r : Rep K Fz H v (.ins C ds)) : ∃ a dx vs, v = .ref a ∧ Stl Fz H a (.ins C dx vs) ∧ RepKs K Fz H vs ds := by
  cases r with
  | ins a C dx vs ds h hk hi => exact ⟨a, dx, vs, rfl, h, ⟨hk, hi⟩⟩
theorem Rep.mk_lst {a : Addr} {vs : List V} {ds : List D} (h : Stl Fz H a (.lst vs)) (r : Reps K Fz H vs ds) : Rep K Fz H (.ref a) (.lst ds) := .lst a vs ds h r.len r.at_
theorem Rep.mk_tup {a : Addr} {vs : List V} {ds : List D} (h : Stl Fz H a (.tup vs)) (r : Reps K Fz H vs ds) : Rep K Fz H (.ref a) (.tup ds) := .tup a vs ds (.inl h) r.len r.at_
theorem Rep.mk_dic {a : Addr} {vs : List (Key × V)} {ds : List (Key × D)} (h : Stl Fz H a (.dK vs)) (r : RepKs K Fz H vs ds) : Rep K Fz H (.ref a) (.dic ds) := .dic a vs ds h r.keys r.at_
theorem Rep.mk_ins {a C dx : Addr} {vs : List (Str × V)} {ds : List (Str × D)} (h : Stl Fz H a (.ins C dx vs)) (r : RepKs K Fz H vs ds) : Rep K Fz H (.ref a) (.ins C ds) := .ins a C dx vs ds h r.keys r.at_
theorem sqL_of {a : Addr} {vs : List V} (h : Stl Fz H a (.lst vs)) : SqL K H a vs := SqL.of h.2
theorem Rep.inv_scr {ns : List Int} (r : Rep K Fz H v (.scr ns)) : ∃ a, v = .ref a ∧ SqL K H a (ns.map V.int) := by
  cases r with
  | scr a ns h =>
    rcases h with ⟨o, h⟩ | h
    · exact ⟨a, rfl, .inl (.inr ⟨o, h.2⟩)⟩
    · exact ⟨a, rfl, .inr h⟩
theorem sqT_of {a : Addr} {vs : List V} (h : Stl Fz H a (.tup vs) ∨ TupK K a vs) : SqT K H a vs := h.imp (fun h => .inl h.2) id
end

/-! ### the state: σ by data τ -/
structure Rel (K : PySem.W.Frag) (tv : List (V × D)) (τ : List (Option D)) (G : Gp) (Fz : Addr → Prop) (σ : L2.St) (H : Hp) : Prop where
  len : σ.length = τ.length
  slot : ∀ (i : Nat) (d : D), τ[i]? = some (some d) → ∃ v, σ[i]? = some (some v) ∧ Rep K Fz H v d
  tmp : ∀ p ∈ tv, Rep K Fz H p.1 p.2
  hr : HRel K Fz H G
section
variable {K : PySem.W.Frag} {tv tv' : List (V × D)} {τ : List (Option D)} {G G' : Gp} {Fz Fz' : Addr → Prop} {σ : L2.St} {H H' : Hp}
theorem Rel.ext (r : Rel K tv τ G Fz σ H) (e : Ext Fz H Fz' H') (h : HRel K Fz' H' G') : Rel K tv τ G' Fz' σ H' :=
  ⟨r.len, fun i d a => let ⟨v, b, c⟩ := r.slot i d a; ⟨v, b, c.ext e⟩, fun p hp => (r.tmp p hp).ext e, h⟩
theorem Rel.push (r : Rel K tv τ G Fz σ H) {v : V} {d : D} (q : Rep K Fz H v d) : Rel K ((v, d) :: tv) τ G Fz σ H :=
  ⟨r.len, r.slot, fun p hp => (List.mem_cons.mp hp).elim (fun e => by rw [e]; exact q) (r.tmp p), r.hr⟩
theorem Rel.sub (r : Rel K tv τ G Fz σ H) (h : ∀ p ∈ tv', p ∈ tv) : Rel K tv' τ G Fz σ H := ⟨r.len, r.slot, fun p hp => r.tmp p (h p hp), r.hr⟩
theorem Rel.set (r : Rel K tv τ G Fz σ H) {v : V} {d : D} (q : Rep K Fz H v d) (j : Nat) : Rel K tv (τ.set j (some d)) G Fz (σ.set j (some v)) H := by
  refine ⟨by rw [List.length_set, List.length_set, r.len], fun i e a => ?_, r.tmp, r.hr⟩
  rw [List.getElem?_set] at a
  by_cases h : j = i
  · rw [if_pos h] at a
    split at a
    · rename_i hj
      have e1 : d = e := Option.some.inj (Option.some.inj a)
      subst e1
      subst h
      exact ⟨v, by rw [List.getElem?_set_self (by rw [r.len]; exact hj)], q⟩
    · cases a
  · rw [if_neg h] at a
    rw [List.getElem?_set_ne h]
    exact r.slot i e a
theorem Rel.slots {τ' : List (Option D)} {σ' : L2.St} (r : Rel K tv τ G Fz σ H) (hl : σ'.length = τ'.length) (h : ∀ (i : Nat) (d : D), τ'[i]? = some (some d) → ∃ v, σ'[i]? = some (some v) ∧ Rep K Fz H v d) : Rel K tv τ' G Fz σ' H := ⟨hl, h, r.tmp, r.hr⟩
end


/-! ### readings -/
abbrev T3 := List (Option D)
abbrev K3 := D → Gp → Prop
abbrev TE3 := T3 → Gp → K3 → Prop
abbrev TT3 := T3 → Gp → (Bool → Gp → Prop) → Prop
abbrev TA3 := T3 → Gp → (List D → Gp → Prop) → Prop
structure Ends3 where
  nx : T3 → Gp → Prop
  rt : K3
  bk : T3 → Gp → Prop := fun _ _ => False
  ct : T3 → Gp → Prop := fun _ _ => False
abbrev TS3 := Ends3 → T3 → Gp → Prop
abbrev BT := List (V × D)

/-- behind an expression -/
def PostE (K : PySem.W.Frag) (tv : BT) (τ : T3) (σ : L2.St) (Q3 : K3) : VK := fun v H' => ∃ Fz' d G', Rel K ((v, d) :: tv) τ G' Fz' σ H' ∧ Q3 d G'
def emb (K : PySem.W.Frag) (B : BT) (t : TE3) : TE := fun σ H Q => ∃ Fz tv τ G Q3, (∀ p ∈ B, p ∈ tv) ∧ Rel K tv τ G Fz σ H ∧ t τ G Q3 ∧ ∀ v H', PostE K tv τ σ Q3 v H' → Q v H'
def PostT (K : PySem.W.Frag) (tv : BT) (τ : T3) (σ : L2.St) (Q3 : Bool → Gp → Prop) : Bool → Hp → Prop := fun b H' => ∃ Fz' G', Rel K tv τ G' Fz' σ H' ∧ Q3 b G'
def embT (K : PySem.W.Frag) (B : BT) (t : TT3) : TT := fun σ H Q => ∃ Fz tv τ G Q3, (∀ p ∈ B, p ∈ tv) ∧ Rel K tv τ G Fz σ H ∧ t τ G Q3 ∧ ∀ b H', PostT K tv τ σ Q3 b H' → Q b H'
def PostA (K : PySem.W.Frag) (tv : BT) (τ : T3) (σ : L2.St) (Q3 : List D → Gp → Prop) : List V → Hp → Prop := fun vs H' => ∃ Fz' ds G', Reps K Fz' H' vs ds ∧ Rel K tv τ G' Fz' σ H' ∧ Q3 ds G'
def embA (K : PySem.W.Frag) (B : BT) (t : TA3) : TA := fun σ H Q => ∃ Fz tv τ G Q3, (∀ p ∈ B, p ∈ tv) ∧ Rel K tv τ G Fz σ H ∧ t τ G Q3 ∧ ∀ vs H', PostA K tv τ σ Q3 vs H' → Q vs H'
structure SubE (K : PySem.W.Frag) (tv : BT) (D3 : Ends3) (D : Ends) : Prop where
  nx : ∀ σ' τ' G' Fz' H', Rel K tv τ' G' Fz' σ' H' → D3.nx τ' G' → D.nx σ' H'
  rt : ∀ d G' v H' Fz' σ' τ', Rel K ((v, d) :: tv) τ' G' Fz' σ' H' → D3.rt d G' → D.rt v H'
  bk : ∀ σ' τ' G' Fz' H', Rel K tv τ' G' Fz' σ' H' → D3.bk τ' G' → D.bk σ' H'
  ct : ∀ σ' τ' G' Fz' H', Rel K tv τ' G' Fz' σ' H' → D3.ct τ' G' → D.ct σ' H'
def embS (K : PySem.W.Frag) (B : BT) (t : TS3) : TS := fun D σ H => ∃ Fz tv τ G D3, (∀ p ∈ B, p ∈ tv) ∧ Rel K tv τ G Fz σ H ∧ t D3 τ G ∧ SubE K tv D3 D

abbrev LE (X : Cx) (B : BT) (e : Expr) (t : TE3) : Prop := PE X e (emb X.K B t)
abbrev LT (X : Cx) (B : BT) (e : Expr) (t : TT3) : Prop := PT X e (embT X.K B t)
abbrev LW (X : Cx) (B : BT) (e : Expr) (t : TT3) : Prop := PW X e (embT X.K B t)
abbrev LA (X : Cx) (B : BT) (es : List Expr) (t : TA3) : Prop := PA X es (embA X.K B t)
abbrev LS (X : Cx) (B : BT) (st : Stmt) (t : TS3) : Prop := PS X st (embS X.K B t)
abbrev LB (X : Cx) (B : BT) (sts : List Stmt) (t : TS3) : Prop := PSs X sts (embS X.K B t)
theorem _root_.L2.PE.imp {X : Cx} {e : Expr} {t t' : TE} (h : PE X e t) (i : ∀ σ H Q, t' σ H Q → t σ H Q) : PE X e t' := ⟨fun pins s σ H Q I q => h.run pins s σ H Q I (i σ H Q q)⟩
theorem _root_.L2.PT.imp {X : Cx} {e : Expr} {t t' : TT} (h : PT X e t) (i : ∀ σ H Q, t' σ H Q → t σ H Q) : PT X e t' := ⟨fun pins s σ H Q I q => h.run pins s σ H Q I (i σ H Q q)⟩
theorem _root_.L2.PW.imp {X : Cx} {e : Expr} {t t' : TT} (h : PW X e t) (i : ∀ σ H Q, t' σ H Q → t σ H Q) : PW X e t' := ⟨fun wh pins s σ H Q I q => h.run wh pins s σ H Q I (i σ H Q q)⟩
theorem _root_.L2.PA.imp {X : Cx} {es : List Expr} {t t' : TA} (h : PA X es t) (i : ∀ σ H Q, t' σ H Q → t σ H Q) : PA X es t' := ⟨fun pos pins s σ H Q I q => h.run pos pins s σ H Q I (i σ H Q q)⟩
theorem _root_.L2.PS.imp {X : Cx} {st : Stmt} {t t' : TS} (h : PS X st t) (i : ∀ D σ H, t' D σ H → t D σ H) : PS X st t' := ⟨fun pins s σ H D I q => h.run pins s σ H D I (i D σ H q)⟩
theorem _root_.L2.PSs.imp {X : Cx} {st : List Stmt} {t t' : TS} (h : PSs X st t) (i : ∀ D σ H, t' D σ H → t D σ H) : PSs X st t' := ⟨fun pins s σ H D I q => h.run pins s σ H D I (i D σ H q)⟩

section
variable {K : PySem.W.Frag} {B tv : BT} {τ : T3} {G G' : Gp} {Fz Fz' : Addr → Prop} {σ : L2.St} {H H' : Hp}
theorem subB {p : V × D} (h : ∀ q ∈ B, q ∈ tv) : ∀ q ∈ B, q ∈ p :: tv := fun q hq => List.mem_cons_of_mem _ (h q hq)
theorem Rel.tl {p : V × D} (r : Rel K (p :: tv) τ G Fz σ H) : Rel K tv τ G Fz σ H := r.sub fun q hq => List.mem_cons_of_mem _ hq
theorem Rel.tl2 {p q : V × D} (r : Rel K (p :: q :: tv) τ G Fz σ H) : Rel K tv τ G Fz σ H := r.tl.tl
theorem Rel.h1 {v : V} {d : D} (r : Rel K ((v, d) :: tv) τ G Fz σ H) : Rep K Fz H v d := r.tmp _ List.mem_cons_self
theorem Rel.h2 {p : V × D} {v : V} {d : D} (r : Rel K (p :: (v, d) :: tv) τ G Fz σ H) : Rep K Fz H v d := r.tmp _ (List.mem_cons_of_mem _ List.mem_cons_self)
/-- an expression's reading met -/
theorem emb.mk {t : TE3} {Q : VK} {Q3 : K3} (hB : ∀ p ∈ B, p ∈ tv) (r : Rel K tv τ G Fz σ H) (h : t τ G Q3) (k : ∀ v H' Fz' d G', Rel K ((v, d) :: tv) τ G' Fz' σ H' → Q3 d G' → Q v H') : emb K B t σ H Q :=
  ⟨Fz, tv, τ, G, Q3, hB, r, h, fun v H' ⟨Fz', d, G', r', q⟩ => k v H' Fz' d G' r' q⟩
theorem embT.mk {t : TT3} {Q : Bool → Hp → Prop} {Q3 : Bool → Gp → Prop} (hB : ∀ p ∈ B, p ∈ tv) (r : Rel K tv τ G Fz σ H) (h : t τ G Q3) (k : ∀ b H' Fz' G', Rel K tv τ G' Fz' σ H' → Q3 b G' → Q b H') : embT K B t σ H Q :=
  ⟨Fz, tv, τ, G, Q3, hB, r, h, fun v H' ⟨Fz', G', r', q⟩ => k v H' Fz' G' r' q⟩
theorem embA.mk {t : TA3} {Q : List V → Hp → Prop} {Q3 : List D → Gp → Prop} (hB : ∀ p ∈ B, p ∈ tv) (r : Rel K tv τ G Fz σ H) (h : t τ G Q3) (k : ∀ vs H' Fz' ds G', Reps K Fz' H' vs ds → Rel K tv τ G' Fz' σ H' → Q3 ds G' → Q vs H') : embA K B t σ H Q :=
  ⟨Fz, tv, τ, G, Q3, hB, r, h, fun v H' ⟨Fz', ds, G', rs, r', q⟩ => k v H' Fz' ds G' rs r' q⟩
theorem embS.mk {t : TS3} {D : Ends} {D3 : Ends3} (hB : ∀ p ∈ B, p ∈ tv) (r : Rel K tv τ G Fz σ H) (h : t D3 τ G) (k : SubE K tv D3 D) : embS K B t D σ H := ⟨Fz, tv, τ, G, D3, hB, r, h, k⟩
theorem PostE.mk {Q3 : K3} {v : V} {d : D} (r : Rel K tv τ G Fz σ H) (q : Rep K Fz H v d) (h : Q3 d G) : PostE K tv τ σ Q3 v H := ⟨Fz, d, G, r.push q, h⟩
/-- a new thing at p that stands still -/
theorem Rel.new {o : HO} {p : Addr} (r : Rel K tv τ G Fz σ H) (hp : H p = none) : Rel K tv τ G (fzup Fz p) σ (upd H p o) := r.ext (Ext.new r.hr hp) (r.hr.new hp)
theorem Rel.stl {o : HO} {p : Addr} : Stl (fzup Fz p) (upd H p o) p o := ⟨.inl rfl, upd_same⟩
theorem Rel.ext1 {o : HO} {p : Addr} (r : Rel K tv τ G Fz σ H) (hp : H p = none) : Ext Fz H (fzup Fz p) (upd H p o) := Ext.new r.hr hp
theorem Reps.mem {vs : List V} {ds : List D} (r : Reps K Fz H vs ds) : ∀ p ∈ vs.zip ds, Rep K Fz H p.1 p.2 := fun p hp => by
  obtain ⟨i, hi, e⟩ := List.mem_iff_getElem.mp hp
  rw [List.getElem_zip] at e
  have h1 : i < vs.length := by rw [List.length_zip] at hi; omega
  have h2 : i < ds.length := by rw [List.length_zip] at hi; omega
  subst e
  exact r.at_ i _ _ (by simp [h1]) (by simp [h2])
theorem Rel.pushs {vs : List V} {ds : List D} (r : Rel K tv τ G Fz σ H) (q : Reps K Fz H vs ds) : Rel K (vs.zip ds ++ tv) τ G Fz σ H :=
  ⟨r.len, r.slot, fun p hp => (List.mem_append.mp hp).elim (q.mem p) (r.tmp p), r.hr⟩
theorem Reps.of_mem {vs : List V} {ds : List D} (hl : vs.length = ds.length) (h : ∀ p ∈ vs.zip ds, Rep K Fz H p.1 p.2) : Reps K Fz H vs ds :=
  ⟨hl, fun i v d a b => h (v, d) (by
    have h1 : i < vs.length := (List.getElem?_eq_some_iff.mp a).1
    have h2 : i < ds.length := (List.getElem?_eq_some_iff.mp b).1
    refine List.mem_iff_getElem.mpr ⟨i, by rw [List.length_zip]; omega, ?_⟩
    rw [List.getElem_zip, (List.getElem?_eq_some_iff.mp a).2, (List.getElem?_eq_some_iff.mp b).2])⟩
end
end L3
end

section
set_option Elab.async false
set_option linter.all false
set_option maxRecDepth 100000
set_option maxHeartbeats 4000000
/-! L3b: expressions. -/
namespace L3
open PySem PySem.Spec PyProof.Rows L2

/-! ### data as the library's data -/
mutual
def py : D → PyData
  | .non => .none | .bl b => .bool b | .int i => .int i | .str x => .str x
  | .lst xs => .list (pys xs) | .tup xs => .tuple (pys xs)
  | .ty _ => .dict [] | .ref _ => .dict [] | .dic _ => .dict [] | .ins _ _ => .dict [] | .scr _ => .dict []
def pys : List D → List PyData
  | [] => [] | x :: xs => py x :: pys xs
end
def eqD (x y : D) : Bool := PyData.eqv (py x) (py y)
def okD (x : D) : Prop := SeqAt.shaped (py x) = true
def isScal : D → Bool
  | .non => true | .bl _ => true | .int _ => true | .str _ => true | _ => false
/-- what may be compared by == -/
def eqOk (x y : D) : Prop := (isScal x = true ∧ isScal y = true) ∨ (okD x ∧ okD y)
section
variable {K : PySem.W.Frag} {Fz : Addr → Prop} {H : Hp}
theorem DpAll.of : ∀ {vs : List V} {ds : List PyData}, vs.length = ds.length → (∀ (i : Nat) (v : V) (d : PyData), vs[i]? = some v → ds[i]? = some d → Dp K H v d) → DpAll K H vs ds
  | [], [], _, _ => .nil
  | v :: vs, d :: ds, hl, h => .cons (h 0 v d rfl rfl) (DpAll.of (by simpa using hl) fun i w e a b => h (i + 1) w e (by simpa using a) (by simpa using b))
theorem pys_length : ∀ xs : List D, (pys xs).length = xs.length
  | [] => rfl
  | x :: xs => by show (pys xs).length + 1 = xs.length + 1; rw [pys_length xs]
theorem pys_get : ∀ {xs : List D} {i : Nat} {e : PyData}, (pys xs)[i]? = some e → ∃ x, xs[i]? = some x ∧ py x = e
  | [], i, e, h => by simp [pys] at h
  | x :: xs, 0, e, h => ⟨x, rfl, by simpa [pys] using h⟩
  | x :: xs, i + 1, e, h => by
    obtain ⟨y, a, b⟩ := pys_get (xs := xs) (i := i) (e := e) (by simpa [pys] using h)
    exact ⟨y, by simpa using a, b⟩
theorem lay_mem : ∀ {xs : List PyData}, PyData.canLayAll0 xs = true → ∀ {i : Nat} {e : PyData}, xs[i]? = some e → e.canLay0 = true
  | [], _, i, e, h => by simp at h
  | x :: xs, hl, 0, e, h => by
    have e1 : x = e := by simpa using h
    rw [← e1]
    exact (Bool.and_eq_true_iff.mp (by simpa [PyData.canLayAll0] using hl)).1
  | x :: xs, hl, i + 1, e, h => lay_mem (Bool.and_eq_true_iff.mp (by simpa only [PyData.canLayAll0] using hl)).2 (i := i) (by simpa using h)
theorem Rep.dp {v : V} {d : D} (r : Rep K Fz H v d) (h : (py d).canLay0 = true) : Dp K H v (py d) := by
  induction r with
  | non => exact .non
  | bl b => exact .bl b
  | int i => exact .int i
  | str x => exact .str x
  | ty n => simp [py, PyData.canLay0] at h
  | ref a => simp [py, PyData.canLay0] at h
  | dic a kvs ds h' hk hi ih => simp [py, PyData.canLay0] at h
  | ins a C dx fs ds h' hk hi ih => simp [py, PyData.canLay0] at h
  | scr a ns h' => simp [py, PyData.canLay0] at h
  | lst a vs ds h' hl hi ih =>
    have hc : PyData.canLayAll0 (pys ds) = true := by simpa only [py, PyData.canLay0] using h
    refine .lst (SqL.of h'.2) (DpAll.of (by rw [pys_length, hl]) fun i w e a b => ?_)
    obtain ⟨x, c1, c2⟩ := pys_get b
    subst c2
    exact ih i w x a c1 (lay_mem hc b)
  | tup a vs ds h' hl hi ih =>
    have hc : PyData.canLayAll0 (pys ds) = true := by simpa only [py, PyData.canLay0] using h
    refine .tup (sqT_of h') (DpAll.of (by rw [pys_length, hl]) fun i w e a b => ?_)
    obtain ⟨x, c1, c2⟩ := pys_get b
    subst c2
    exact ih i w x a c1 (lay_mem hc b)
theorem Rep.dpOk {v : V} {d : D} (r : Rep K Fz H v d) (h : okD d) : Dp K H v (py d) := r.dp (SeqAt.canLay_of_shaped h)
end

/-! ### lists that may stand still or not -/
def lstOf (G : Gp) : D → Option (List D)
  | .lst ds => some ds
  | .ref p => match G p with
    | some (.lst ds) => some ds
    | _ => none
  | _ => none
def insOf (G : Gp) : D → Option (Addr × List (Str × D))
  | .ins C fs => some (C, fs)
  | .ref p => match G p with
    | some (.ins C fs) => some (C, fs)
    | _ => none
  | _ => none
def dicOf (G : Gp) : D → Option (List (Key × D))
  | .dic ds => some ds
  | .ref p => match G p with
    | some (.dic ds) => some ds
    | _ => none
  | _ => none
section
variable {K : PySem.W.Frag} {Fz : Addr → Prop} {H : Hp} {G : Gp} {v : V} {d : D}
theorem lst_at {ds : List D} (h : HRel K Fz H G) (r : Rep K Fz H v d) (e : lstOf G d = some ds) : ∃ a vs, v = .ref a ∧ H a = some (.lst vs) ∧ Reps K Fz H vs ds := by
  cases d with
  | lst xs =>
    have e1 : xs = ds := Option.some.inj e
    subst e1
    obtain ⟨a, vs, e1, s, q⟩ := r.inv_lst
    exact ⟨a, vs, e1, s.2, q⟩
  | ref p =>
    have e' : (match G p with | some (.lst ds) => some ds | _ => none) = some ds := e
    split at e'
    · rename_i q
      have e1 := Option.some.inj e'
      subst e1
      obtain ⟨_, vs, h1, h2⟩ := h.go _ _ q
      exact ⟨p, vs, r.inv_ref, h1, h2⟩
    · cases e'
  | _ => cases e
theorem ins_at {C : Addr} {fs : List (Str × D)} (h : HRel K Fz H G) (r : Rep K Fz H v d) (e : insOf G d = some (C, fs)) : ∃ a dx vs, v = .ref a ∧ H a = some (.ins C dx vs) ∧ RepKs K Fz H vs fs := by
  cases d with
  | ins C' fs' =>
    have e1 : (C', fs') = (C, fs) := Option.some.inj e
    cases e1
    obtain ⟨a, dx, vs, e1, s, q⟩ := r.inv_ins
    exact ⟨a, dx, vs, e1, s.2, q⟩
  | ref p =>
    have e' : (match G p with | some (.ins C fs) => some (C, fs) | _ => none) = some (C, fs) := e
    split at e'
    · rename_i q
      have e1 := Option.some.inj e'
      cases e1
      obtain ⟨_, dx, vs, h1, h2⟩ := h.go _ _ q
      exact ⟨p, dx, vs, r.inv_ref, h1, h2⟩
    · cases e'
  | _ => cases e
theorem dic_at {ds : List (Key × D)} (h : HRel K Fz H G) (r : Rep K Fz H v d) (e : dicOf G d = some ds) : ∃ a vs, v = .ref a ∧ H a = some (.dK vs) ∧ RepKs K Fz H vs ds := by
  cases d with
  | dic xs =>
    have e1 : xs = ds := Option.some.inj e
    subst e1
    obtain ⟨a, vs, e1, s, q⟩ := r.inv_dic
    exact ⟨a, vs, e1, s.2, q⟩
  | ref p =>
    have e' : (match G p with | some (.dic ds) => some ds | _ => none) = some ds := e
    split at e'
    · rename_i q
      have e1 := Option.some.inj e'
      subst e1
      obtain ⟨_, vs, h1, h2⟩ := h.go _ _ q
      exact ⟨p, vs, r.inv_ref, h1, h2⟩
    · cases e'
  | _ => cases e
theorem RepKs.lookup {κ : Type} [BEq κ] [LawfulBEq κ] {vs : List (κ × V)} {ds : List (κ × D)} (r : RepKs K Fz H vs ds) (f : κ) : (∀ d, ds.lookup f = some d → ∃ v, vs.lookup f = some v ∧ Rep K Fz H v d) ∧ (ds.lookup f = none → vs.lookup f = none) := by
  induction ds generalizing vs with
  | nil =>
    have hl := r.len
    cases vs with
    | nil => exact ⟨fun d e => by simp at e, fun _ => rfl⟩
    | cons _ _ => simp at hl
  | cons p ds ih =>
    cases vs with
    | nil => have hl := r.len; simp at hl
    | cons q vs =>
      obtain ⟨k, v⟩ := q
      obtain ⟨k', d⟩ := p
      have hk := r.keys
      simp only [List.map_cons, List.cons.injEq] at hk
      obtain ⟨hk1, hk2⟩ := hk
      subst hk1
      have r' : RepKs K Fz H vs ds := ⟨hk2, fun i p q a b => r.at_ (i + 1) p q (by simpa using a) (by simpa using b)⟩
      have r0 : Rep K Fz H v d := r.at_ 0 (k, v) (k, d) rfl rfl
      obtain ⟨i1, i2⟩ := ih r'
      by_cases e : f == k
      · refine ⟨fun d' h => ?_, fun h => ?_⟩
        · rw [List.lookup_cons, e] at h ⊢
          cases h
          exact ⟨v, rfl, r0⟩
        · rw [List.lookup_cons, e] at h; cases h
      · have e' : (f == k) = false := by simpa using e
        refine ⟨fun d' h => ?_, fun h => ?_⟩
        · rw [List.lookup_cons, e'] at h ⊢
          exact i1 d' h
        · rw [List.lookup_cons, e'] at h ⊢
          exact i2 h
end

/-! ### the simulation of value rules -/
abbrev R3 := D → D → Gp → K3 → Prop
def Sim2 (K : PySem.W.Frag) (r0 : R2) (r3 : R3) : Prop := ∀ {Fz : Addr → Prop} {σ : L2.St} {H : Hp} {tv : BT} {τ : T3} {G : Gp} {v u : V} {x y : D} {Q : VK} {Q3 : K3},
  Rel K ((u, y) :: (v, x) :: tv) τ G Fz σ H → r3 x y G Q3 → (∀ w H', PostE K tv τ σ Q3 w H' → Q w H') → r0 v u H Q
abbrev RC3 := List D → Gp → K3 → Prop
def SimC (K : PySem.W.Frag) (r0 : List V → Hp → VK → Prop) (r3 : RC3) : Prop := ∀ {Fz : Addr → Prop} {σ : L2.St} {H : Hp} {tv : BT} {τ : T3} {G : Gp} {vs : List V} {ds : List D} {Q : VK} {Q3 : K3},
  Reps K Fz H vs ds → Rel K tv τ G Fz σ H → r3 ds G Q3 → (∀ w H', PostE K tv τ σ Q3 w H' → Q w H') → r0 vs H Q

def lOp (r : R3) (ta tb : TE3) : TE3 := fun τ G Q => ta τ G fun x G1 => tb τ G1 fun y G2 => r x y G2 Q
def lC (d : D) : TE3 := fun _ G Q => Q d G
def lVar (i : Nat) : TE3 := fun τ G Q => match τ[i]? with
  | some (some d) => Q d G
  | _ => False
def lTest (t : TE3) : TT3 := fun τ G Q => t τ G fun d G' => match d with
  | .bl k => Q k G'
  | _ => False
def lNil : TA3 := fun _ G Q => Q [] G
def lCons (ta : TE3) (tr : TA3) : TA3 := fun τ G Q => ta τ G fun x G1 => tr τ G1 fun xs G2 => Q (x :: xs) G2

section
variable {X : Cx} {B : BT} {a b c : Expr} {ta tb tc : TE3} {pos : Pos}
theorem le_c {e : Expr} {v : V} {d : D} (h : PE X e (tC v)) (r : ∀ Fz H, Rep X.K Fz H v d) : LE X B e (lC d) :=
  h.imp fun σ H Q ⟨Fz, tv, τ, G, Q3, hB, rl, ht, k⟩ => k v H (.mk rl (r _ _) ht)
theorem le_int {i j} : LE X B (.Constant (.int i) j pos) (lC (.int i)) := le_c pe_int fun _ _ => .int i
theorem le_bl {b j} : LE X B (.Constant (.bool b) j pos) (lC (.bl b)) := le_c pe_bl fun _ _ => .bl b
theorem le_non {j} : LE X B (.Constant .none j pos) (lC .non) := le_c pe_non fun _ _ => .non
theorem le_str {x j} : LE X B (.Constant (.str x) j pos) (lC (.str x)) := le_c pe_str fun _ _ => .str x
theorem le_gint {x : Str} {i : Int} {t : Tok} (hg : Gl X x) (hm : X.mg x = some (.int i t)) (hd : (x == ("__debug__" : Str)) = false := by decide) : LE X B (.Name x pos) (lC (.int i)) := le_c (pe_glob (v := .int i) hg hm ⟨t, rfl⟩ hd) fun _ _ => .int i
theorem le_gstr {x z : Str} {t : Tok} (hg : Gl X x) (hm : X.mg x = some (.str z t)) (hd : (x == ("__debug__" : Str)) = false := by decide) : LE X B (.Name x pos) (lC (.str z)) := le_c (pe_glob (v := .str z) hg hm ⟨t, rfl⟩ hd) fun _ _ => .str z
theorem le_gref {x : Str} {p : Addr} (hg : Gl X x) (hm : X.mg x = some (.ref p)) (hd : (x == ("__debug__" : Str)) = false := by decide) : LE X B (.Name x pos) (lC (.ref p)) := le_c (pe_glob (v := .ref p) hg hm rfl hd) fun _ _ => .ref p
/-- a tuple of the module -/
theorem le_gtup {x : Str} {p : Addr} {vs : List V} {ds : List D} (hg : Gl X x) (hm : X.mg x = some (.ref p)) (hk : TupK X.K p vs) (hr : ∀ Fz H, Reps X.K Fz H vs ds) (hd : (x == ("__debug__" : Str)) = false := by decide) : LE X B (.Name x pos) (lC (.tup ds)) :=
  le_c (pe_glob (v := .ref p) hg hm rfl hd) fun Fz H => .tup p vs ds (.inr hk) (hr Fz H).len (hr Fz H).at_
theorem le_ty {x : Str} {n : String} (hg : Gl X x) (hm : X.mg x = none) (hv : bootBuiltins x = some (.type n)) (hn : x ≠ "__name__" := by decide) (hd : (x == ("__debug__" : Str)) = false := by decide) : LE X B (.Name x pos) (lC (.ty n)) := le_c (pe_bltn (v := .ty n) hg hm hv rfl hn hd) fun _ _ => .ty n
theorem le_var (i : Nat) {x : Str} (hN : X.N[i]? = some x := by rfl) (hv : Vis X.env.scope x := by first | exact Or.inl rfl | exact Or.inr (Or.inl rfl) | exact Or.inr (Or.inr rfl)) (hd : (x == ("__debug__" : Str)) = false := by decide)
    (hcd : (x == ("__classdict__" : Str)) = false := by decide) : LE X B (.Name x pos) (lVar i) :=
  (pe_var hN hv hd hcd).imp fun σ H Q ⟨Fz, tv, τ, G, Q3, hB, r, h, k⟩ => by
    unfold lVar at h
    split at h
    · rename_i d e
      obtain ⟨v, hv, q⟩ := r.slot i d e
      exact ⟨v, hv, k v H (.mk r q h)⟩
    · exact h.elim
theorem tOp_of {r0 : R2} {r3 : R3} (hs : Sim2 X.K r0 r3) {σ : L2.St} {H : Hp} {Q : VK} (h : emb X.K B (lOp r3 ta tb) σ H Q) : tOp r0 (emb X.K B ta) (emb X.K B tb) σ H Q := by
  obtain ⟨Fz, tv, τ, G, Q3, hB, r, ht, k⟩ := h
  exact emb.mk hB r ht fun v H1 Fz1 x G1 r1 h1 => emb.mk (subB hB) r1 h1 fun u H2 Fz2 y G2 r2 h2 => hs r2 h2 k
theorem le_op {op : Operator} {r0 : R2} {r3 : R3} (ho : OpR X (binaryOp op) r0) (hs : Sim2 X.K r0 r3) (ha : LE X B a ta) (hb : LE X B b tb) : LE X B (.BinOp a op b pos) (lOp r3 ta tb) :=
  (pe_op ho ha hb).imp fun _ _ _ h => tOp_of hs h
theorem le_cmp {op : CmpOp} {r0 : R2} {r3 : R3} (ho : OpR X (compareOp op) r0) (hs : Sim2 X.K r0 r3) (ha : LE X B a ta) (hb : LE X B b tb) (hm : behindInMarks op b = false) : LE X B (.Compare a [op] [b] pos) (lOp r3 ta tb) :=
  (pe_cmpR ho ha hb hm).imp fun _ _ _ h => tOp_of hs h
theorem lt_of {e : Expr} {t0 : TE} {t : TE3} (h : PT X e (fun σ H Q => t0 σ H fun x H' => ∃ k, x = .bl k ∧ Q k H')) (hs : ∀ σ H Q, emb X.K B t σ H Q → t0 σ H Q) : LT X B e (lTest t) :=
  h.imp fun σ H Q ⟨Fz, tv, τ, G, Q3, hB, r, ht, k⟩ => hs _ _ _ (emb.mk hB r ht fun v H' Fz' d G' r' q => by
    cases d with
    | bl b =>
      have e := r'.h1.inv_bl
      exact ⟨b, e, k b H' ⟨Fz', G', r'.tl, q⟩⟩
    | _ => exact q.elim)
theorem lt_cmp {op : CmpOp} {r0 : R2} {r3 : R3} (ho : OpR X (compareOp op) r0) (hs : Sim2 X.K r0 r3) (ha : LE X B a ta) (hb : LE X B b tb) (hm : behindInMarks op b = false) : LT X B (.Compare a [op] [b] pos) (lTest (lOp r3 ta tb)) :=
  lt_of (pt_cmpR ho ha hb hm) fun _ _ _ h => tOp_of hs h
/-- any expression that gives a truth -/
theorem lt_val {e : Expr} {t : TE3} (h : LE X B e t) (he : ∀ whole, isTrue e X.env whole = (do let v ← whole; standAt e.pos; holding [v] (truthy v)) := by intro _; rfl) : LT X B e (lTest t) :=
  lt_of (pt_val h he) fun _ _ _ h => h
/-- a value's truth -/
def truD (G : Gp) : D → Option Bool
  | .bl b => some b
  | .non => some false
  | .int i => some (i != 0)
  | .tup xs => some !xs.isEmpty
  | d => (lstOf G d).map fun xs => !xs.isEmpty
def lTru (t : TE3) : TT3 := fun τ G Q => t τ G fun d G' => match truD G' d with
  | some k => Q k G'
  | none => False
theorem isEmpty_len {α β : Type} {xs : List α} {ys : List β} (h : xs.length = ys.length) : xs.isEmpty = ys.isEmpty := by
  cases xs <;> cases ys <;> simp_all
theorem lt_tru {e : Expr} {t : TE3} (h : LE X B e t) (he : ∀ whole, isTrue e X.env whole = (do let v ← whole; standAt e.pos; holding [v] (truthy v)) := by intro _; rfl) : LT X B e (lTru t) :=
  (pt_truth h he).imp fun σ H Q ⟨Fz, tv, τ, G, Q3, hB, r, ht, k⟩ => emb.mk hB r ht fun v H' Fz' d G' r' q => by
    have fin : ∀ b, Q3 b G' → Q b H' := fun b hb => k b H' ⟨Fz', G', r'.tl, hb⟩
    have lst : ∀ ds, lstOf G' d = some ds → Q3 (!ds.isEmpty) G' → ∃ k, TruV X.K v H' k ∧ Q k H' := fun ds e q => by
      obtain ⟨a, vs, e1, h1, h2⟩ := lst_at r'.hr r'.h1 e
      subst e1
      exact ⟨_, .inl ⟨vs, SqL.of h1, by rw [isEmpty_len h2.len]⟩, fin _ q⟩
    cases d with
    | bl b => rw [r'.h1.inv_bl]; exact ⟨b, rfl, fin b q⟩
    | non => rw [r'.h1.inv_non]; exact ⟨false, rfl, fin _ q⟩
    | int i => rw [r'.h1.inv_int]; exact ⟨_, rfl, fin _ q⟩
    | tup xs =>
      obtain ⟨a, vs, e1, s, rs⟩ := r'.h1.inv_tup
      subst e1
      exact ⟨_, .inr (.inl ⟨vs, sqT_of s, by rw [isEmpty_len rs.len]⟩), fin _ q⟩
    | lst xs => exact lst xs rfl q
    | ref p =>
      have q' : (match (lstOf G' (.ref p)).map (fun xs => !xs.isEmpty) with | some k => Q3 k G' | none => False) := q
      cases e : lstOf G' (.ref p) with
      | none => rw [e] at q'; exact q'.elim
      | some ds => rw [e] at q'; exact lst ds e q'
    | _ => exact q.elim

/-! ### and, or, not, if .. else -/
def lAnd (t u : TT3) : TT3 := fun τ G Q => t τ G fun c G1 => if c = true then u τ G1 Q else Q false G1
def lOr (t u : TT3) : TT3 := fun τ G Q => t τ G fun c G1 => if c = true then Q true G1 else u τ G1 Q
def lNot (t : TT3) : TT3 := fun τ G Q => t τ G fun c G1 => Q (!c) G1
variable {tA tB' : TT3} {rest : List Expr}
theorem lw_and1 (ha : LT X B a tA) : LW X B (.BoolOp .And [a] pos) tA := pw_and1 ha
theorem lw_or1 (ha : LT X B a tA) : LW X B (.BoolOp .Or [a] pos) tA := pw_or1 ha
theorem lw_and (ha : LT X B a tA) (hb : LW X B (.BoolOp .And (b :: rest) pos) tB') : LW X B (.BoolOp .And (a :: b :: rest) pos) (lAnd tA tB') :=
  (pw_and ha hb).imp fun σ H Q ⟨Fz, tv, τ, G, Q3, hB, r, ht, k⟩ => embT.mk hB r ht fun c H1 Fz1 G1 r1 q => by
    cases c with
    | true => exact ⟨Fz1, tv, τ, G1, Q3, hB, r1, q, k⟩
    | false => exact k false H1 ⟨Fz1, G1, r1, q⟩
theorem lw_or (ha : LT X B a tA) (hb : LW X B (.BoolOp .Or (b :: rest) pos) tB') : LW X B (.BoolOp .Or (a :: b :: rest) pos) (lOr tA tB') :=
  (pw_or ha hb).imp fun σ H Q ⟨Fz, tv, τ, G, Q3, hB, r, ht, k⟩ => embT.mk hB r ht fun c H1 Fz1 G1 r1 q => by
    cases c with
    | false => exact ⟨Fz1, tv, τ, G1, Q3, hB, r1, q, k⟩
    | true => exact k true H1 ⟨Fz1, G1, r1, q⟩
theorem lt_not (ha : LT X B a tA) : LT X B (.UnaryOp .Not a pos) (lNot tA) :=
  (pt_not ha).imp fun σ H Q ⟨Fz, tv, τ, G, Q3, hB, r, ht, k⟩ => embT.mk hB r ht fun c H1 Fz1 G1 r1 q => k (!c) H1 ⟨Fz1, G1, r1, q⟩
def lAndV (ta tb : TE3) : TE3 := fun τ G Q => ta τ G fun x G1 => match x with
  | .bl c => if c = true then tb τ G1 Q else Q (.bl false) G1
  | _ => False
def lOrV (ta tb : TE3) : TE3 := fun τ G Q => ta τ G fun x G1 => match x with
  | .bl c => if c = true then Q (.bl true) G1 else tb τ G1 Q
  | _ => False
def lNotV (ta : TE3) : TE3 := fun τ G Q => ta τ G fun x G1 => match x with
  | .bl c => Q (.bl (!c)) G1
  | _ => False
theorem le_one {op} {t : TE3} (h : LE X B a t) : LE X B (.BoolOp op [a] pos) t := pe_one h
theorem le_and (ha : LE X B a ta) (hb : LE X B (.BoolOp .And (b :: rest) pos) tb) : LE X B (.BoolOp .And (a :: b :: rest) pos) (lAndV ta tb) :=
  (pe_and ha hb).imp fun σ H Q ⟨Fz, tv, τ, G, Q3, hB, r, ht, k⟩ => emb.mk hB r ht fun v H1 Fz1 x G1 r1 q => by
    cases x with
    | bl c =>
      refine ⟨c, r1.h1.inv_bl, ?_⟩
      cases c with
      | true => exact ⟨Fz1, tv, τ, G1, Q3, hB, r1.tl, q, k⟩
      | false => exact k _ H1 (.mk r1.tl (.bl false) q)
    | _ => exact q.elim
theorem le_or (ha : LE X B a ta) (hb : LE X B (.BoolOp .Or (b :: rest) pos) tb) : LE X B (.BoolOp .Or (a :: b :: rest) pos) (lOrV ta tb) :=
  (pe_or ha hb).imp fun σ H Q ⟨Fz, tv, τ, G, Q3, hB, r, ht, k⟩ => emb.mk hB r ht fun v H1 Fz1 x G1 r1 q => by
    cases x with
    | bl c =>
      refine ⟨c, r1.h1.inv_bl, ?_⟩
      cases c with
      | false => exact ⟨Fz1, tv, τ, G1, Q3, hB, r1.tl, q, k⟩
      | true => exact k _ H1 (.mk r1.tl (.bl true) q)
    | _ => exact q.elim
theorem le_not (ha : LE X B a ta) : LE X B (.UnaryOp .Not a pos) (lNotV ta) :=
  (pe_not ha).imp fun σ H Q ⟨Fz, tv, τ, G, Q3, hB, r, ht, k⟩ => emb.mk hB r ht fun v H1 Fz1 x G1 r1 q => by
    cases x with
    | bl c => exact ⟨c, r1.h1.inv_bl, k _ H1 (.mk r1.tl (.bl _) q)⟩
    | _ => exact q.elim
def lIf (t : TT3) (ta tb : TE3) : TE3 := fun τ G Q => t τ G fun c G1 => if c = true then ta τ G1 Q else tb τ G1 Q
theorem le_ifExp (hc : LT X B c tA) (ha : LE X B a ta) (hb : LE X B b tb) : LE X B (.IfExp c a b pos) (lIf tA ta tb) :=
  (pe_ifExp hc ha hb).imp fun σ H Q ⟨Fz, tv, τ, G, Q3, hB, r, ht, k⟩ => embT.mk hB r ht fun d H1 Fz1 G1 r1 q => by
    cases d with
    | true => exact ⟨Fz1, tv, τ, G1, Q3, hB, r1, q, k⟩
    | false => exact ⟨Fz1, tv, τ, G1, Q3, hB, r1, q, k⟩
/-! ### a < b < c -/
def lChain (r r' : R3) (ta tb tc : TE3) : TE3 := fun τ G Q => ta τ G fun x G1 => tb τ G1 fun y G2 => r x y G2 fun z G3 => match z with
  | .bl k => if k = true then tc τ G3 fun w G4 => r' y w G4 Q else Q (.bl false) G3
  | _ => False
theorem tChain_of {r0 r0' : R2} {r3 r3' : R3} (hs : Sim2 X.K r0 r3) (hs' : Sim2 X.K r0' r3') {σ : L2.St} {H : Hp} {Q : VK} (h : emb X.K B (lChain r3 r3' ta tb tc) σ H Q) : tChain r0 r0' (emb X.K B ta) (emb X.K B tb) (emb X.K B tc) σ H Q := by
  obtain ⟨Fz, tv, τ, G, Q3, hB, r, ht, k⟩ := h
  refine emb.mk hB r ht fun v H1 Fz1 x G1 r1 h1 => emb.mk (subB hB) r1 h1 fun u H2 Fz2 y G2 r2 h2 => ?_
  refine hs (tv := (u, y) :: tv) (r2.sub fun p hp => ?_) h2 fun w H3 ⟨Fz3, z, G3, r3, q⟩ => ?_
  · simp only [List.mem_cons] at hp ⊢
    rcases hp with h | h | h | h
    · exact .inl h
    · exact .inr (.inl h)
    · exact .inl h
    · exact .inr (.inr h)
  · cases z with
    | bl b =>
      refine ⟨b, r3.h1.inv_bl, ?_⟩
      cases b with
      | true => exact emb.mk (subB hB) r3.tl q fun w' H4 Fz4 z G4 r4 h4 => hs' r4 h4 k
      | false => exact k _ H3 (.mk r3.tl2 (.bl false) q)
    | _ => exact q.elim
theorem le_chain {op op' : CmpOp} {r0 r0' : R2} {r3 r3' : R3} (ho : OpR X (compareOp op) r0) (hs : Sim2 X.K r0 r3) (ho' : OpR X (compareOp op') r0') (hs' : Sim2 X.K r0' r3') (ha : LE X B a ta) (hb : LE X B b tb) (hc : LE X B c tc)
    (hm : lastMarks [op, op'] [b, c] = false := by with_unfolding_all rfl) : LE X B (.Compare a [op, op'] [b, c] pos) (lChain r3 r3' ta tb tc) :=
  (pe_chain ho ho' ha hb hc hm).imp fun _ _ _ h => tChain_of hs hs' h
theorem lt_chain {op op' : CmpOp} {r0 r0' : R2} {r3 r3' : R3} (ho : OpR X (compareOp op) r0) (hs : Sim2 X.K r0 r3) (ho' : OpR X (compareOp op') r0') (hs' : Sim2 X.K r0' r3') (ha : LE X B a ta) (hb : LE X B b tb) (hc : LE X B c tc)
    (hm : lastMarks [op, op'] [b, c] = false := by with_unfolding_all rfl) : LT X B (.Compare a [op, op'] [b, c] pos) (lTest (lChain r3 r3' ta tb tc)) :=
  lt_of (pt_chain ho ho' ha hb hc hm) fun _ _ _ h => tChain_of hs hs' h

/-! ### argument lists, displays -/
variable {e : Expr} {es : List Expr} {te : TE3} {t : TA3}
theorem la_nil : LA X B [] lNil := pa_nil.imp fun σ H Q ⟨Fz, tv, τ, G, Q3, hB, r, ht, k⟩ => k [] H ⟨Fz, [], G, .nil, r, ht⟩
theorem la_cons (ha : LE X B e te) (hr : LA X B es t) (hs : starEach (e :: es) X.env = (false, eval e X.env) :: starEach es X.env := by rfl) : LA X B (e :: es) (lCons te t) :=
  (pa_cons ha hr hs).imp fun σ H Q ⟨Fz, tv, τ, G, Q3, hB, r, ht, k⟩ => emb.mk hB r ht fun v H1 Fz1 x G1 r1 h1 => embA.mk (subB hB) r1 h1 fun vs H2 Fz2 ds G2 rs r2 h2 =>
    k (v :: vs) H2 ⟨Fz2, x :: ds, G2, .cons r2.h1 rs, r2.tl, h2⟩
def lTup (t : TA3) : TE3 := fun τ G Q => t τ G fun ds G1 => ds.length ≤ sizeLine ∧ Q (.tup ds) G1
def lLst (t : TA3) : TE3 := fun τ G Q => t τ G fun ds G1 => ds.length ≤ sizeLine ∧ Q (.lst ds) G1
/-- a list that may change -/
def lLstG (t : TA3) : TE3 := fun τ G Q => t τ G fun ds G1 => ds.length ≤ sizeLine ∧ ∀ p, G1 p = none → Q (.ref p) (gup G1 p (.lst ds))
theorem le_tup {x1} (h : LA X B es t) : LE X B (.Tuple es x1 pos) (lTup t) :=
  (pe_tup h).imp fun σ H Q ⟨Fz, tv, τ, G, Q3, hB, r, ht, k⟩ => embA.mk hB r ht fun vs H1 Fz1 ds G1 rs r1 ⟨hl, q⟩ =>
    ⟨by rw [rs.len]; exact hl, fun p hp => k _ _ (.mk (r1.new hp) (Rep.mk_tup Rel.stl (rs.ext (r1.ext1 hp))) q)⟩
theorem le_lst (h : LA X B es t) : LE X B (.List es pos) (lLst t) :=
  (pe_lst h).imp fun σ H Q ⟨Fz, tv, τ, G, Q3, hB, r, ht, k⟩ => embA.mk hB r ht fun vs H1 Fz1 ds G1 rs r1 ⟨hl, q⟩ =>
    ⟨by rw [rs.len]; exact hl, fun p hp => k _ _ (.mk (r1.new hp) (Rep.mk_lst Rel.stl (rs.ext (r1.ext1 hp))) q)⟩
theorem le_lstG (h : LA X B es t) : LE X B (.List es pos) (lLstG t) :=
  (pe_lst h).imp fun σ H Q ⟨Fz, tv, τ, G, Q3, hB, r, ht, k⟩ => embA.mk hB r ht fun vs H1 Fz1 ds G1 rs r1 ⟨hl, q⟩ =>
    ⟨by rw [rs.len]; exact hl, fun p hp => k _ _ (.mk (r1.ext (Ext.newG r1.hr hp) (r1.hr.newG (g := .lst ds) hp ⟨vs, upd_same, rs.ext (Ext.newG r1.hr hp)⟩)) (.ref p) (q p (r1.hr.free hp)))⟩
/-! ### built-ins by their values -/
def lCB (r : RC3) (t : TA3) : TE3 := fun τ G Q => t τ G fun ds G1 => r ds G1 Q
theorem tCB_of {r0 : List V → Hp → VK → Prop} {r3 : RC3} (hs : SimC X.K r0 r3) {σ : L2.St} {H : Hp} {Q : VK} (h : emb X.K B (lCB r3 t) σ H Q) : tCB r0 (embA X.K B t) σ H Q := by
  obtain ⟨Fz, tv, τ, G, Q3, hB, r, ht, k⟩ := h
  exact embA.mk hB r ht fun vs H1 Fz1 ds G1 rs r1 h1 => hs rs r1 h1 k
theorem le_callB {r0 : List V → Hp → VK → Prop} {r3 : RC3} {id : String} {x : Str} {p : Pos} (hc : CallR X (.builtin id) r0) (hs : SimC X.K r0 r3) (hg : Gl X x) (hm : X.mg x = none) (hv : bootBuiltins x = some (.builtin id)) (ha : LA X B (e :: es) t) (hn : x ≠ "__name__" := by decide) (hdb : (x == ("__debug__" : Str)) = false := by decide)
    (he : starEach (e :: es) X.env = (false, eval e X.env) :: starEach es X.env := by rfl) (hpl : (backTo pos (starEach es X.env)).any (·.1) = false := by rfl) : LE X B (.Call (.Name x p) (e :: es) [] pos) (lCB r3 t) :=
  (pe_callB hc hg hm hv ha hn hdb he hpl).imp fun _ _ _ h => tCB_of hs h
theorem le_callTy {r0 : List V → Hp → VK → Prop} {r3 : RC3} {T : String} {x : Str} {p : Pos} (hc : CallR X (.type T) r0) (hs : SimC X.K r0 r3) (hg : Gl X x) (hm : X.mg x = none) (hv : bootBuiltins x = some (.type T)) (ha : LA X B (e :: es) t) (hn : x ≠ "__name__" := by decide) (hdb : (x == ("__debug__" : Str)) = false := by decide)
    (he : starEach (e :: es) X.env = (false, eval e X.env) :: starEach es X.env := by rfl) (hpl : (backTo pos (starEach es X.env)).any (·.1) = false := by rfl) : LE X B (.Call (.Name x p) (e :: es) [] pos) (lCB r3 t) :=
  (pe_callTy hc hg hm hv ha hn hdb he hpl).imp fun _ _ _ h => tCB_of hs h
end
end L3
end

section
set_option Elab.async false
set_option linter.all false
set_option maxRecDepth 100000
set_option maxHeartbeats 4000000
/-! L3c: operators and built-ins by values. -/
namespace L3
open PySem PySem.Spec PyProof.Rows L2

section
variable {K : PySem.W.Frag}
/-! ### ints -/
def rI3 (C : Int → Int → Prop) (g : Int → Int → D) : R3 := fun x y G Q => match x, y with
  | .int i, .int j => C i j ∧ Q (g i j) G
  | _, _ => False
def rI30 (g : Int → Int → D) : R3 := fun x y G Q => match x, y with
  | .int i, .int j => Q (g i j) G
  | _, _ => False
theorem sim_I {C : Int → Int → Prop} {g : Int → Int → Int} : Sim2 K (rI C fun i j => .int (g i j)) (rI3 C fun i j => .int (g i j)) := by
  intro Fz σ H tv τ G v u x y Q Q3 r h k
  cases x with
  | int i => cases y with
    | int j =>
      obtain ⟨hc, q⟩ := h
      exact ⟨i, j, r.h2.inv_int, r.h1.inv_int, hc, k _ H (.mk r.tl2 (.int _) q)⟩
    | _ => exact h.elim
  | _ => exact h.elim
theorem sim_I0 {g : Int → Int → Int} : Sim2 K (rI0 fun i j => .int (g i j)) (rI30 fun i j => .int (g i j)) := by
  intro Fz σ H tv τ G v u x y Q Q3 r h k
  cases x with
  | int i => cases y with
    | int j => exact ⟨i, j, r.h2.inv_int, r.h1.inv_int, k _ H (.mk r.tl2 (.int _) h)⟩
    | _ => exact h.elim
  | _ => exact h.elim
theorem sim_B0 {g : Int → Int → Bool} : Sim2 K (rI0 fun i j => .bl (g i j)) (rI30 fun i j => .bl (g i j)) := by
  intro Fz σ H tv τ G v u x y Q Q3 r h k
  cases x with
  | int i => cases y with
    | int j => exact ⟨i, j, r.h2.inv_int, r.h1.inv_int, k _ H (.mk r.tl2 (.bl _) h)⟩
    | _ => exact h.elim
  | _ => exact h.elim
abbrev rSub3 : R3 := rI30 fun i j => .int (i - j)
abbrev rMul3 : R3 := rI3 CMul fun i j => .int (i * j)
abbrev rDiv3 : R3 := rI3 CDiv fun i j => .int (i / j)
abbrev rMod3 : R3 := rI3 (fun _ j => 0 < j) fun i j => .int (i % j)
abbrev rPow3 : R3 := rI3 CPow fun i j => .int (i ^ j.toNat)
abbrev rLt3 : R3 := rI30 fun i j => .bl (decide (i < j))
abbrev rLe3 : R3 := rI30 fun i j => .bl (decide (i ≤ j))
abbrev rGt3 : R3 := rI30 fun i j => .bl (decide (j < i))
abbrev rGe3 : R3 := rI30 fun i j => .bl (decide (j ≤ i))
/-! ### + -/
def rAdd3 : R3 := fun x y G Q => match x, y with
  | .int i, .int j => Q (.int (i + j)) G
  | .str a, .str b => a.length + b.length ≤ sizeLine ∧ Q (.str (a ++ b)) G
  | .tup a, .tup b => a.length + b.length ≤ sizeLine ∧ Q (.tup (a ++ b)) G
  | x, y => match lstOf G x, lstOf G y with
    | some a, some b => a.length + b.length ≤ sizeLine ∧ Q (.lst (a ++ b)) G
    | _, _ => False
def rAdd0 (K : PySem.W.Frag) : R2 := fun x y H Q => (rI0 (fun i j => .int (i + j)) x y H Q) ∨ (∃ i j, x = .str i ∧ y = .str j ∧ i.length + j.length ≤ sizeLine ∧ Q (.str (i ++ j)) H) ∨ rCat x y H Q ∨ rCatA K x y H Q
theorem opr_add {X : Cx} : OpR X (binaryOp .Add) (rAdd0 X.K) := op_add.or (op_add_str.or (op_cat.or op_catA))
theorem sim_add : Sim2 K (rAdd0 K) rAdd3 := by
  intro Fz σ H tv τ G v u x y Q Q3 r h k
  have lst : ∀ a b, lstOf G x = some a → lstOf G y = some b → a.length + b.length ≤ sizeLine → Q3 (.lst (a ++ b)) G → rAdd0 K v u H Q := fun a b ea eb hl q => by
    obtain ⟨p, vs, e1, h1, h2⟩ := lst_at r.hr r.h2 ea
    obtain ⟨p', vs', e1', h1', h2'⟩ := lst_at r.hr r.h1 eb
    subst e1 e1'
    exact .inr (.inr (.inl ⟨p, p', vs, vs', rfl, rfl, h1, h1', by rw [h2.len, h2'.len]; exact hl, fun q0 hq => k _ _ (.mk (r.tl2.new hq) (Rep.mk_lst Rel.stl ((h2.append h2').ext (r.ext1 hq))) q)⟩))
  have other : (match lstOf G x, lstOf G y with
    | some a, some b => a.length + b.length ≤ sizeLine ∧ Q3 (.lst (a ++ b)) G
    | _, _ => False) → rAdd0 K v u H Q := fun h => by
    cases ea : lstOf G x with
    | none => rw [ea] at h; exact h.elim
    | some a => cases eb : lstOf G y with
      | none => rw [ea, eb] at h; exact h.elim
      | some b => rw [ea, eb] at h; exact lst a b ea eb h.1 h.2
  cases x with
  | int i => cases y with
    | int j => exact .inl ⟨i, j, r.h2.inv_int, r.h1.inv_int, k _ H (.mk r.tl2 (.int _) h)⟩
    | _ => exact other h
  | str i => cases y with
    | str j => exact .inr (.inl ⟨i, j, r.h2.inv_str, r.h1.inv_str, h.1, k _ H (.mk r.tl2 (.str _) h.2)⟩)
    | _ => exact other h
  | tup i => cases y with
    | tup j =>
      obtain ⟨p, vs, e1, s, q⟩ := r.h2.inv_tup
      obtain ⟨p', vs', e1', s', q'⟩ := r.h1.inv_tup
      subst e1 e1'
      refine .inr (.inr (.inr ⟨p, p', vs, vs', rfl, rfl, sqT_of s, sqT_of s', by rw [q.len, q'.len]; exact h.1, fun e => ?_, fun e e' => ?_, fun _ _ q0 hq => ?_⟩))
      · subst e
        have e2 : i = [] := List.length_eq_zero_iff.mp q.len.symm
        subst e2
        exact k _ H (.mk r.tl2 r.h1 h.2)
      · subst e'
        have e2 : j = [] := List.length_eq_zero_iff.mp q'.len.symm
        subst e2
        refine k _ H (.mk r.tl2 r.h2 ?_)
        have h2 := h.2
        rwa [List.append_nil] at h2
      · exact k _ _ (.mk (r.tl2.new hq) (Rep.mk_tup Rel.stl ((q.append q').ext (r.ext1 hq))) h.2)
    | _ => exact other h
  | _ => exact other h
/-! ### ==, != -/
def rEq3 : R3 := fun x y G Q => eqOk x y ∧ Q (.bl (eqD x y)) G
def rNe3 : R3 := fun x y G Q => eqOk x y ∧ Q (.bl (!eqD x y)) G
def rEq0 (K : PySem.W.Frag) : R2 := fun x y H Q => rEq x y H Q ∨ rEqD K x y H Q
def rNe0 (K : PySem.W.Frag) : R2 := fun x y H Q => rNe x y H Q ∨ rNeD K x y H Q
theorem opr_eq {X : Cx} (hu : X.A.units + 64 < cLine) : OpR X (compareOp .Eq) (rEq0 X.K) := op_eq.or (op_eqD hu)
theorem opr_ne {X : Cx} (hu : X.A.units + 64 < cLine) : OpR X (compareOp .NotEq) (rNe0 X.K) := op_ne.or (op_neD hu)
theorem shaped_bl (b : Bool) : SeqAt.shaped (.bool b) = true := rfl
theorem shaped_int (i : Int) : SeqAt.shaped (.int i) = true := rfl
theorem scal_eq {Fz : Addr → Prop} {H : Hp} {v u : V} {x y : D} (rx : Rep K Fz H v x) (ry : Rep K Fz H u y) (sx : isScal x = true) (sy : isScal y = true) :
    (scal v u = true ∧ decide (v = u) = eqD x y) ∨ (okD x ∧ okD y) := by
  cases x with
  | non =>
    rw [rx.inv_non]
    cases y with
    | non => rw [ry.inv_non]; exact .inl ⟨rfl, rfl⟩
    | bl b => rw [ry.inv_bl]; exact .inl ⟨rfl, rfl⟩
    | int j => rw [ry.inv_int]; exact .inl ⟨rfl, rfl⟩
    | str z => rw [ry.inv_str]; exact .inl ⟨rfl, rfl⟩
    | _ => cases sy
  | bl a =>
    cases y with
    | non => rw [rx.inv_bl, ry.inv_non]; exact .inl ⟨rfl, rfl⟩
    | bl b => rw [rx.inv_bl, ry.inv_bl]; exact .inl ⟨rfl, dec_bl.trans rfl⟩
    | int j => exact .inr ⟨rfl, rfl⟩
    | str z => rw [rx.inv_bl, ry.inv_str]; exact .inl ⟨rfl, rfl⟩
    | _ => cases sy
  | int a =>
    cases y with
    | non => rw [rx.inv_int, ry.inv_non]; exact .inl ⟨rfl, rfl⟩
    | bl b => exact .inr ⟨rfl, rfl⟩
    | int j => rw [rx.inv_int, ry.inv_int]; exact .inl ⟨rfl, dec_int.trans rfl⟩
    | str z => rw [rx.inv_int, ry.inv_str]; exact .inl ⟨rfl, rfl⟩
    | _ => cases sy
  | str a =>
    cases y with
    | non => rw [rx.inv_str, ry.inv_non]; exact .inl ⟨rfl, rfl⟩
    | bl b => rw [rx.inv_str, ry.inv_bl]; exact .inl ⟨rfl, rfl⟩
    | int j => rw [rx.inv_str, ry.inv_int]; exact .inl ⟨rfl, rfl⟩
    | str z => rw [rx.inv_str, ry.inv_str]; exact .inl ⟨rfl, dec_str.trans rfl⟩
    | _ => cases sy
  | _ => cases sx
theorem sim_eq : Sim2 K (rEq0 K) rEq3 := by
  intro Fz σ H tv τ G v u x y Q Q3 r ⟨ok, h⟩ k
  have fin : Q (.bl (eqD x y)) H := k _ H (.mk r.tl2 (.bl _) h)
  have deep : okD x ∧ okD y → rEq0 K v u H Q := fun ⟨a, b⟩ => .inr ⟨_, _, r.h2.dpOk a, r.h1.dpOk b, a, b, fin⟩
  rcases ok with ⟨sx, sy⟩ | ok
  · rcases scal_eq r.h2 r.h1 sx sy with ⟨a, b⟩ | ok
    · exact .inl ⟨a, by rw [b]; exact fin⟩
    · exact deep ok
  · exact deep ok
theorem sim_ne : Sim2 K (rNe0 K) rNe3 := by
  intro Fz σ H tv τ G v u x y Q Q3 r ⟨ok, h⟩ k
  have fin : Q (.bl (!eqD x y)) H := k _ H (.mk r.tl2 (.bl _) h)
  have deep : okD x ∧ okD y → rNe0 K v u H Q := fun ⟨a, b⟩ => .inr ⟨_, _, r.h2.dpOk a, r.h1.dpOk b, a, b, fin⟩
  rcases ok with ⟨sx, sy⟩ | ok
  · rcases scal_eq r.h2 r.h1 sx sy with ⟨a, b⟩ | ok
    · exact .inl ⟨a, by rw [b]; exact fin⟩
    · exact deep ok
  · exact deep ok
/-! ### is None -/
def isNonD : D → Bool
  | .non => true
  | _ => false
def rIsN3 : R3 := fun x y G Q => match y with
  | .non => Q (.bl (isNonD x)) G
  | _ => False
def rNotN3 : R3 := fun x y G Q => match y with
  | .non => Q (.bl (!isNonD x)) G
  | _ => False
theorem isNon_eq {Fz : Addr → Prop} {H : Hp} {v : V} {x : D} (r : Rep K Fz H v x) : decide (v = .non) = isNonD x := by
  cases r <;> rfl
theorem sim_isN : Sim2 K (fun x y H Q => y = .non ∧ Q (.bl (decide (x = .non))) H) rIsN3 := by
  intro Fz σ H tv τ G v u x y Q Q3 r h k
  cases y with
  | non => exact ⟨r.h1.inv_non, by rw [isNon_eq r.h2]; exact k _ H (.mk r.tl2 (.bl _) h)⟩
  | _ => exact h.elim
theorem sim_notN : Sim2 K (fun x y H Q => y = .non ∧ Q (.bl (!decide (x = .non))) H) rNotN3 := by
  intro Fz σ H tv τ G v u x y Q Q3 r h k
  cases y with
  | non => exact ⟨r.h1.inv_non, by rw [isNon_eq r.h2]; exact k _ H (.mk r.tl2 (.bl _) h)⟩
  | _ => exact h.elim
/-- is True, is not True -/
def rIsB3 : R3 := fun x y G Q => match x, y with
  | .bl a, .bl b => Q (.bl (decide (a = b))) G
  | _, _ => False
def rNotB3 : R3 := fun x y G Q => match x, y with
  | .bl a, .bl b => Q (.bl (!decide (a = b))) G
  | _, _ => False
/-! ### in, not in -/
def signIn (c z : Str) : Option Bool := match c.cps.toList with
  | [n] => some (decide (n ∈ z.cps.toList))
  | _ => none
/-- items of a list or a tuple -/
def itemsOf (G : Gp) : D → Option (List D)
  | .tup ds => some ds
  | d => lstOf G d
def inD (x : D) (ys : List D) : Bool := ys.any fun y => eqD y x
/-- whether neg: not in -/
def rIn3 (neg : Bool) : R3 := fun x y G Q => match y with
  | .str z => (match x with
    | .str c => (match signIn c z with
      | some b => Q (.bl (neg ^^ b)) G
      | none => False)
    | _ => False)
  | y => match itemsOf G y with
    | some ys => ((isScal x = true ∧ ys.all isScal = true) ∨ (okD x ∧ okD (.lst ys) ∧ ∃ zs, y = .lst zs)) ∧ Q (.bl (neg ^^ inD x ys)) G
    | none => False
def rIn0 (K : PySem.W.Frag) : R2 := fun x y H Q => (∃ (c : Nat) (z : Str), x = .str ⟨#[c]⟩ ∧ y = .str z ∧ Q (.bl (decide (c ∈ z.cps.toList))) H) ∨ rIn K false x y H Q ∨ rInD K x y H Q
def rNotIn0 (K : PySem.W.Frag) : R2 := fun x y H Q => (∃ (c : Nat) (z : Str), x = .str ⟨#[c]⟩ ∧ y = .str z ∧ Q (.bl (!decide (c ∈ z.cps.toList))) H) ∨ rIn K true x y H Q ∨ rNotInD K x y H Q
theorem opr_in {X : Cx} (hu : X.A.units + 65 < cLine) : OpR X (compareOp .In) (rIn0 X.K) := op_in_sign.or (op_in_seq.or (op_inD hu))
theorem opr_notIn {X : Cx} (hu : X.A.units + 65 < cLine) : OpR X (compareOp .NotIn) (rNotIn0 X.K) := op_notIn_sign.or (op_notIn_seq.or (op_notInD hu))
theorem flat_of {Fz : Addr → Prop} {H : Hp} {v : V} {x : D} (r : Rep K Fz H v x) (s : isScal x = true) : flatV v = true := by
  cases r <;> first | rfl | cases s
theorem eqV_of {Fz : Addr → Prop} {H : Hp} {v u : V} {x y : D} (rx : Rep K Fz H v x) (ry : Rep K Fz H u y) (sx : isScal x = true) (sy : isScal y = true) : eqV v u = eqD x y := by
  cases rx <;> first | (cases ry <;> first | rfl | (exact absurd sy (by decide)) | (cases sy; done)) | (cases sx; done)
theorem any_eqD {Fz : Addr → Prop} {H : Hp} {v : V} {x : D} (rx : Rep K Fz H v x) (sx : isScal x = true) : ∀ {vs : List V} {ys : List D}, Reps K Fz H vs ys → ys.all isScal = true → vs.all flatV = true ∧ inV v vs = inD x ys := by
  intro vs ys
  induction ys generalizing vs with
  | nil => intro r _; rw [r.inv_nil]; exact ⟨rfl, rfl⟩
  | cons y ys ih =>
    intro r h
    obtain ⟨w, ws, rfl, r1, r2⟩ := r.inv_cons
    rw [List.all_cons, Bool.and_eq_true] at h
    obtain ⟨i1, i2⟩ := ih r2 h.2
    refine ⟨by rw [List.all_cons, flat_of r1 h.1, i1]; rfl, ?_⟩
    unfold inV inD at *
    rw [List.any_cons, List.any_cons, eqV_of r1 rx h.1 sx, i2]
theorem any_py {x : D} : ∀ ys : List D, ((pys ys).any fun z => PyData.eqv z (py x)) = inD x ys
  | [] => rfl
  | y :: ys => by
    show (PyData.eqv (py y) (py x) || (pys ys).any fun z => PyData.eqv z (py x)) = (eqD y x || inD x ys)
    rw [any_py ys]; rfl
theorem items_at {Fz : Addr → Prop} {H : Hp} {G : Gp} {v : V} {d : D} {ds : List D} (h : HRel K Fz H G) (r : Rep K Fz H v d) (e : itemsOf G d = some ds) : ∃ a vs, v = .ref a ∧ (SqL K H a vs ∨ SqT K H a vs) ∧ Reps K Fz H vs ds := by
  cases d with
  | tup xs =>
    have e1 : xs = ds := Option.some.inj e
    subst e1
    obtain ⟨a, vs, e1, s, q⟩ := r.inv_tup
    exact ⟨a, vs, e1, .inr (sqT_of s), q⟩
  | lst xs => obtain ⟨a, vs, e1, h1, q⟩ := lst_at h r e; exact ⟨a, vs, e1, .inl (SqL.of h1), q⟩
  | ref p => obtain ⟨a, vs, e1, h1, q⟩ := lst_at h r e; exact ⟨a, vs, e1, .inl (SqL.of h1), q⟩
  | _ => cases e
theorem signIn_some {c z : Str} {b : Bool} (h : signIn c z = some b) : ∃ n, c = ⟨#[n]⟩ ∧ b = decide (n ∈ z.cps.toList) := by
  unfold signIn at h
  split at h
  · rename_i n e
    refine ⟨n, ?_, (Option.some.inj h).symm⟩
    obtain ⟨cps⟩ := c
    have : cps = #[n] := by
      have e' : cps.toList = [n] := e
      rw [← Array.toArray_toList (xs := cps), e']
    rw [this]
  · cases h
theorem sim_in : Sim2 K (rIn0 K) (rIn3 false) := by
  intro Fz σ H tv τ G v u x y Q Q3 r h k
  have fin : ∀ b, Q3 (.bl (false ^^ b)) G → Q (.bl b) H := fun b q => k _ H (.mk r.tl2 (.bl _) (by rwa [Bool.false_xor] at q))
  have seq : (match itemsOf G y with
    | some ys => ((isScal x = true ∧ ys.all isScal = true) ∨ (okD x ∧ okD (.lst ys) ∧ ∃ zs, y = .lst zs)) ∧ Q3 (.bl (false ^^ inD x ys)) G
    | none => False) → rIn0 K v u H Q := fun h => by
    cases e : itemsOf G y with
    | none => rw [e] at h; exact h.elim
    | some ys =>
      rw [e] at h
      obtain ⟨hc, q⟩ := h
      rcases hc with ⟨sx, sy⟩ | ⟨ox, oy, zs, rfl⟩
      · obtain ⟨a, vs, rfl, hs, rs⟩ := items_at r.hr r.h1 e
        obtain ⟨f, e2⟩ := any_eqD r.h2 sx rs sy
        exact .inr (.inl ⟨a, vs, rfl, hs, flat_of r.h2 sx, f, by rw [e2]; exact fin _ q⟩)
      · have e1 : zs = ys := Option.some.inj e
        subst e1
        exact .inr (.inr ⟨py x, pys zs, r.h2.dpOk ox, r.h1.dpOk oy, ox, oy, by rw [any_py]; exact fin _ q⟩)
  cases y with
  | str z =>
    cases x with
    | str c =>
      have h' : (match signIn c z with
        | some b => Q3 (.bl (false ^^ b)) G
        | none => False) := h
      cases e : signIn c z with
      | none => rw [e] at h'; exact h'.elim
      | some b =>
        rw [e] at h'
        obtain ⟨n, rfl, rfl⟩ := signIn_some e
        exact .inl ⟨n, z, r.h2.inv_str, r.h1.inv_str, fin _ h'⟩
    | _ => exact h.elim
  | _ => exact seq h
theorem sim_notIn : Sim2 K (rNotIn0 K) (rIn3 true) := by
  intro Fz σ H tv τ G v u x y Q Q3 r h k
  have fin : ∀ b, Q3 (.bl (true ^^ b)) G → Q (.bl (!b)) H := fun b q => k _ H (.mk r.tl2 (.bl _) (by rwa [Bool.true_xor] at q))
  have seq : (match itemsOf G y with
    | some ys => ((isScal x = true ∧ ys.all isScal = true) ∨ (okD x ∧ okD (.lst ys) ∧ ∃ zs, y = .lst zs)) ∧ Q3 (.bl (true ^^ inD x ys)) G
    | none => False) → rNotIn0 K v u H Q := fun h => by
    cases e : itemsOf G y with
    | none => rw [e] at h; exact h.elim
    | some ys =>
      rw [e] at h
      obtain ⟨hc, q⟩ := h
      rcases hc with ⟨sx, sy⟩ | ⟨ox, oy, zs, rfl⟩
      · obtain ⟨a, vs, rfl, hs, rs⟩ := items_at r.hr r.h1 e
        obtain ⟨f, e2⟩ := any_eqD r.h2 sx rs sy
        exact .inr (.inl ⟨a, vs, rfl, hs, flat_of r.h2 sx, f, by rw [e2]; exact fin _ q⟩)
      · have e1 : zs = ys := Option.some.inj e
        subst e1
        exact .inr (.inr ⟨py x, pys zs, r.h2.dpOk ox, r.h1.dpOk oy, ox, oy, by rw [any_py]; exact fin _ q⟩)
  cases y with
  | str z =>
    cases x with
    | str c =>
      have h' : (match signIn c z with
        | some b => Q3 (.bl (true ^^ b)) G
        | none => False) := h
      cases e : signIn c z with
      | none => rw [e] at h'; exact h'.elim
      | some b =>
        rw [e] at h'
        obtain ⟨n, rfl, rfl⟩ := signIn_some e
        exact .inl ⟨n, z, r.h2.inv_str, r.h1.inv_str, fin _ h'⟩
    | _ => exact h.elim
  | _ => exact seq h
/-! ### len -/
def lenD (G : Gp) : D → Option Nat
  | .str s => if s.length ≤ sizeLine then some s.length else none
  | .scr ns => some ns.length
  | d => (itemsOf G d).map List.length
def rLen3 : RC3 := fun ds G Q => match ds with
  | [d] => (match lenD G d with
    | some n => Q (.int n) G
    | none => False)
  | _ => False
def rLen0 (K : PySem.W.Frag) : List V → Hp → VK → Prop := fun xs H Q => (∃ p ys, xs = [.ref p] ∧ (SqL K H p ys ∨ SqT K H p ys) ∧ Q (.int ys.length) H) ∨ ∃ z, xs = [.str z] ∧ z.length ≤ sizeLine ∧ Q (.int z.length) H
theorem callr_len {X : Cx} : CallR X (.builtin "len") (rLen0 X.K) := call_len_seq.or call_len_str
theorem Reps.one_inv {Fz : Addr → Prop} {H : Hp} {vs : List V} {d : D} (r : Reps K Fz H vs [d]) : ∃ v, vs = [v] ∧ Rep K Fz H v d := by
  obtain ⟨v, ws, rfl, h1, h2⟩ := r.inv_cons
  rw [h2.inv_nil]
  exact ⟨v, rfl, h1⟩
theorem Reps.two_inv {Fz : Addr → Prop} {H : Hp} {vs : List V} {d e : D} (r : Reps K Fz H vs [d, e]) : ∃ v u, vs = [v, u] ∧ Rep K Fz H v d ∧ Rep K Fz H u e := by
  obtain ⟨v, ws, rfl, h1, h2⟩ := r.inv_cons
  obtain ⟨u, rfl, h3⟩ := h2.one_inv
  exact ⟨v, u, rfl, h1, h3⟩
theorem sim_len : SimC K (rLen0 K) rLen3 := by
  intro Fz σ H tv τ G vs ds Q Q3 rs r h k
  match ds, h with
  | [d], h =>
    obtain ⟨v, rfl, rv⟩ := rs.one_inv
    have h' : (match lenD G d with
      | some n => Q3 (.int n) G
      | none => False) := h
    have seq : lenD G d = (itemsOf G d).map List.length → rLen0 K [v] H Q := fun e => by
      rw [e] at h'
      cases e2 : itemsOf G d with
      | none => rw [e2] at h'; exact h'.elim
      | some ys =>
        rw [e2] at h'
        obtain ⟨a, vs, rfl, hs, rq⟩ := items_at r.hr rv e2
        exact .inl ⟨a, vs, rfl, hs, by rw [rq.len]; exact k _ H (.mk r (.int _) h')⟩
    cases d with
    | str s =>
      have e0 : lenD G (.str s) = if s.length ≤ sizeLine then some s.length else none := rfl
      rw [e0] at h'
      split at h'
      · rename_i n e
        split at e
        · rename_i hl
          cases e
          exact .inr ⟨s, by rw [rv.inv_str], hl, k _ H (.mk r (.int _) h')⟩
        · cases e
      · exact h'.elim
    | scr ns =>
      obtain ⟨a, rfl, ha⟩ := rv.inv_scr
      exact .inl ⟨a, ns.map V.int, rfl, .inl ha, by rw [List.length_map]; exact k _ H (.mk r (.int _) h')⟩
    | lst xs => exact seq rfl
    | tup xs => exact seq rfl
    | ref p => exact seq rfl
    | _ => exact h'.elim
  | [], h => exact h.elim
  | _ :: _ :: _, h => exact h.elim
/-! ### x[i] -/
def atD (G : Gp) (d : D) (i : Int) : Option D := match d with
  | .str s => if s.length ≤ sizeLine then (atI s.cps.toList i).map fun c => .str ⟨#[c]⟩ else none
  | .scr ns => (atI ns i).map .int
  | d => (itemsOf G d).bind fun ds => atI ds i
def rIx3 : R3 := fun x y G Q => match y with
  | .int i => (match atD G x i with
    | some d => Q d G
    | none => False)
  | _ => False
theorem Reps.atI {Fz : Addr → Prop} {H : Hp} {vs : List V} {ds : List D} (r : Reps K Fz H vs ds) {i : Int} {d : D} (h : L2.atI ds i = some d) : ∃ v, L2.atI vs i = some v ∧ Rep K Fz H v d := by
  unfold L2.atI at h ⊢
  rw [r.len]
  cases e : ixN ds.length i with
  | none => rw [e] at h; cases h
  | some j =>
    rw [e] at h
    exact r.get h
theorem atI_map {α β : Type} (f : α → β) (xs : List α) (i : Int) : atI (xs.map f) i = (atI xs i).map f := by
  unfold atI
  rw [List.length_map]
  cases ixN xs.length i with
  | none => rfl
  | some j => exact List.getElem?_map ..
theorem sim_ix : Sim2 K (rIx K) rIx3 := by
  intro Fz σ H tv τ G v u x y Q Q3 r h k
  cases y with
  | int i =>
    have h' : (match atD G x i with
      | some d => Q3 d G
      | none => False) := h
    have eu := r.h1.inv_int
    subst eu
    have seq : atD G x i = (itemsOf G x).bind (fun ds => atI ds i) → rIx K v (.int i) H Q := fun e => by
      rw [e] at h'
      cases e2 : itemsOf G x with
      | none => rw [e2] at h'; exact h'.elim
      | some ds =>
        rw [e2] at h'
        cases e3 : atI ds i with
        | none => rw [Option.bind_some, e3] at h'; exact h'.elim
        | some d =>
          rw [Option.bind_some, e3] at h'
          obtain ⟨a, vs, rfl, hs, rq⟩ := items_at r.hr r.h2 e2
          obtain ⟨w, e4, rw'⟩ := rq.atI e3
          rcases hs with hs | hs
          · exact .inl ⟨a, vs, i, w, rfl, rfl, hs, e4, k _ H (.mk r.tl2 rw' h')⟩
          · exact .inr (.inl ⟨a, vs, i, w, rfl, rfl, hs, e4, k _ H (.mk r.tl2 rw' h')⟩)
    cases x with
    | str s =>
      have e0 : atD G (.str s) i = if s.length ≤ sizeLine then (atI s.cps.toList i).map (fun c => D.str ⟨#[c]⟩) else none := rfl
      rw [e0] at h'
      by_cases hl : s.length ≤ sizeLine
      · rw [if_pos hl] at h'
        cases e : atI s.cps.toList i with
        | none => rw [e] at h'; exact h'.elim
        | some c =>
          rw [e] at h'
          exact .inr (.inr ⟨s, i, c, r.h2.inv_str, rfl, hl, e, k _ H (.mk r.tl2 (.str _) h')⟩)
      · rw [if_neg hl] at h'; exact h'.elim
    | scr ns =>
      obtain ⟨a, rfl, ha⟩ := r.h2.inv_scr
      have e0 : atD G (.scr ns) i = (atI ns i).map D.int := rfl
      rw [e0] at h'
      cases e : atI ns i with
      | none => rw [e] at h'; exact h'.elim
      | some n =>
        rw [e] at h'
        exact .inl ⟨a, ns.map V.int, i, .int n, rfl, rfl, ha, by rw [atI_map, e]; rfl, k _ H (.mk r.tl2 (.int _) h')⟩
    | lst xs => exact seq rfl
    | tup xs => exact seq rfl
    | ref p => exact seq rfl
    | _ => exact h'.elim
  | _ => exact h.elim
end
section
variable {X : Cx} {B : BT} {a b : Expr} {ta tb : TE3} {pos : Pos}
theorem le_ix (ha : LE X B a ta) (hb : LE X B b tb) (hs : PlainIx b := by exact fun _ _ => rfl) : LE X B (.Subscript a b pos) (lOp rIx3 ta tb) :=
  (pe_ix ix_seq ha hb hs).imp fun _ _ _ h => tOp_of sim_ix h
theorem sim_isB : Sim2 X.K (fun x y H Q => ∃ a b, x = .bl a ∧ y = .bl b ∧ Q (.bl (decide (a = b))) H) rIsB3 := by
  intro Fz σ H tv τ G v u x y Q Q3 r h k
  cases x with
  | bl i => cases y with
    | bl j => exact ⟨i, j, r.h2.inv_bl, r.h1.inv_bl, k _ H (.mk r.tl2 (.bl _) h)⟩
    | _ => exact h.elim
  | _ => exact h.elim
theorem sim_notB : Sim2 X.K (fun x y H Q => ∃ a b, x = .bl a ∧ y = .bl b ∧ Q (.bl (!decide (a = b))) H) rNotB3 := by
  intro Fz σ H tv τ G v u x y Q Q3 r h k
  cases x with
  | bl i => cases y with
    | bl j => exact ⟨i, j, r.h2.inv_bl, r.h1.inv_bl, k _ H (.mk r.tl2 (.bl _) h)⟩
    | _ => exact h.elim
  | _ => exact h.elim
end
end L3
end

section
set_option Elab.async false
set_option linter.all false
set_option maxRecDepth 100000
set_option maxHeartbeats 4000000
/-! L3d: slices, isinstance, built-ins. -/
namespace L3
open PySem PySem.Spec PyProof.Rows L2

/-! ### slices -/
abbrev TO3 := T3 → Gp → (Option Int → Gp → Prop) → Prop
def lNoPart : TO3 := fun _ G Q => Q none G
def lPart (t : TE3) : TO3 := fun τ G Q => t τ G fun d G' => match d with
  | .int i => Q (some i) G'
  | _ => False
def embO (K : PySem.W.Frag) (B : BT) (t : TO3) : TO := fun σ H Q => ∃ Fz tv τ G Q3, (∀ p ∈ B, p ∈ tv) ∧ Rel K tv τ G Fz σ H ∧ t τ G Q3 ∧ ∀ o H', (∃ Fz' G', Rel K tv τ G' Fz' σ H' ∧ Q3 o G') → Q o H'
abbrev LO (X : Cx) (B : BT) (e : Option Expr) (t : TO3) : Prop := PO X e (embO X.K B t)
theorem _root_.L2.PO.imp {X : Cx} {e : Option Expr} {t t' : TO} (h : PO X e t) (i : ∀ σ H Q, t' σ H Q → t σ H Q) : PO X e t' := ⟨fun pins s σ H Q I q => h.run pins s σ H Q I (i σ H Q q)⟩
def cutL {α : Type} (xs : List α) (lo hi : Option Int) : List α := (xs.drop (HT.sIx xs.length 0 lo)).take (HT.sIx xs.length xs.length hi - HT.sIx xs.length 0 lo)
abbrev RS3 := D → Option Int → Option Int → Gp → K3 → Prop
def lSl (r : RS3) (t : TE3) (tl th : TO3) : TE3 := fun τ G Q => t τ G fun x G1 => tl τ G1 fun l G2 => th τ G2 fun u G3 => r x l u G3 Q
def rSl3 : RS3 := fun x lo hi G Q => match x with
  | .str z => z.length ≤ sizeLine ∧ Q (.str (cutS z lo hi)) G
  | .tup ds => Q (.tup (cutL ds lo hi)) G
  | d => match lstOf G d with
    | some ds => Q (.lst (cutL ds lo hi)) G
    | none => False
section
variable {X : Cx} {B : BT} {e : Expr} {te : TE3} {pos p2 : Pos} {lo hi : Option Expr} {tl th : TO3}
theorem lo_none : LO X B none lNoPart := po_none.imp fun σ H Q ⟨Fz, tv, τ, G, Q3, hB, r, ht, k⟩ => k none H ⟨Fz, G, r, ht⟩
theorem lo_some (h : LE X B e te) : LO X B (some e) (lPart te) := (po_some h).imp fun σ H Q ⟨Fz, tv, τ, G, Q3, hB, r, ht, k⟩ => emb.mk hB r ht fun v H1 Fz1 d G1 r1 q => by
  cases d with
  | int i => exact ⟨i, r1.h1.inv_int, k _ H1 ⟨Fz1, G1, r1.tl, q⟩⟩
  | _ => exact q.elim
theorem Reps.cut {K : PySem.W.Frag} {Fz : Addr → Prop} {H : Hp} {vs : List V} {ds : List D} (r : Reps K Fz H vs ds) (lo hi : Option Int) : Reps K Fz H (cutV vs lo hi) (cutL ds lo hi) := by
  unfold cutV cutL
  rw [r.len]
  exact (r.drop _).take _
theorem cutL_whole {α : Type} {xs : List α} {lo hi : Option Int} (h : HT.sIx xs.length 0 lo = 0 ∧ HT.sIx xs.length xs.length hi = xs.length) : cutL xs lo hi = xs := by
  unfold cutL
  rw [h.1, h.2]
  simp
theorem le_slice (he : LE X B e te) (hl : LO X B lo tl) (hu : LO X B hi th) : LE X B (.Subscript e (.Slice lo hi none p2) pos) (lSl rSl3 te tl th) :=
  (pe_slice (sl_list.or (sl_tupA.or sl_str)) he hl hu).imp fun σ H Q ⟨Fz, tv, τ, G, Q3, hB, r, ht, k⟩ => emb.mk hB r ht fun v H1 Fz1 x G1 r1 h1 =>
    ⟨Fz1, (v, x) :: tv, τ, G1, _, subB hB, r1, h1, fun l H2 ⟨Fz2, G2, r2, h2⟩ => ⟨Fz2, (v, x) :: tv, τ, G2, _, subB hB, r2, h2, fun u H3 ⟨Fz3, G3, r3, h3⟩ => by
      have lst : (match lstOf G3 x with
        | some ds => Q3 (.lst (cutL ds l u)) G3
        | none => False) → rSlL X.K v l u H3 Q := fun h => by
        cases e : lstOf G3 x with
        | none => rw [e] at h; exact h.elim
        | some ds =>
          rw [e] at h
          obtain ⟨a, vs, rfl, h1, rs⟩ := lst_at r3.hr r3.h1 e
          exact ⟨a, vs, rfl, SqL.of h1, fun p hp => k _ _ (.mk (r3.tl.new hp) (Rep.mk_lst Rel.stl ((rs.cut l u).ext (r3.ext1 hp))) h)⟩
      cases x with
      | str z => exact .inr (.inr ⟨z, r3.h1.inv_str, h3.1, k _ _ (.mk r3.tl (.str _) h3.2)⟩)
      | tup ds =>
        obtain ⟨a, vs, rfl, s, rs⟩ := r3.h1.inv_tup
        refine .inr (.inl ⟨a, vs, rfl, sqT_of s, fun hw => ?_, fun hw p hp => ?_⟩)
        · have h4 : Q3 (.tup (cutL ds l u)) G3 := h3
          rw [cutL_whole (by rw [← rs.len]; exact hw)] at h4
          exact k _ _ (.mk r3.tl r3.h1 h4)
        · exact k _ _ (.mk (r3.tl.new hp) (Rep.mk_tup Rel.stl ((rs.cut l u).ext (r3.ext1 hp))) h3)
      | lst xs => exact .inl (lst h3)
      | ref p => exact .inl (lst h3)
      | _ => exact h3.elim⟩⟩
end

/-! ### isinstance -/
inductive Ty where
  | int | str | bool | list | tuple | dict
  deriving DecidableEq
def Ty.nm : Ty → String
  | .int => "int" | .str => "str" | .bool => "bool" | .list => "list" | .tuple => "tuple" | .dict => "dict"
inductive Kd where
  | non | bool | int | str | list | tuple | dict
def Kd.nm : Kd → String
  | .non => "NoneType" | .int => "int" | .str => "str" | .bool => "bool" | .list => "list" | .tuple => "tuple" | .dict => "dict"
def kdOf (G : Gp) : D → Option Kd
  | .non => some .non | .bl _ => some .bool | .int _ => some .int | .str _ => some .str | .lst _ => some .list | .tup _ => some .tuple | .dic _ => some .dict
  | .ref p => (match G p with
    | some (.lst _) => some .list
    | some (.dic _) => some .dict
    | _ => none)
  | _ => none
def isTy : Ty → Kd → Bool
  | .int, .int => true | .int, .bool => true | .str, .str => true | .bool, .bool => true | .list, .list => true | .tuple, .tuple => true | .dict, .dict => true
  | _, _ => false
theorem kit_tab (T : Ty) (k : Kd) : kitB k.nm T.nm = some (isTy T k) := by cases T <;> cases k <;> decide +kernel
theorem tyX_of {K : PySem.W.Frag} {Fz : Addr → Prop} {H : Hp} {G : Gp} {v : V} {d : D} {k : Kd} (h : HRel K Fz H G) (r : Rep K Fz H v d) (e : kdOf G d = some k) : TyX K H v (.type k.nm) := by
  cases d with
  | non => cases e; rw [r.inv_non]; exact .base .non
  | bl b => cases e; rw [r.inv_bl]; exact .base (.bl b)
  | int i => cases e; rw [r.inv_int]; exact .base (.int i)
  | str i => cases e; rw [r.inv_str]; exact .base (.str i)
  | lst xs => cases e; obtain ⟨a, vs, rfl, s, _⟩ := r.inv_lst; exact .base (.lst s.2)
  | tup xs =>
    cases e
    obtain ⟨a, vs, rfl, s, _⟩ := r.inv_tup
    rcases s with s | ⟨o, its, n, hk, hc, _⟩
    · exact .base (.tup s.2)
    · exact .kTuple hk hc
  | dic xs => cases e; obtain ⟨a, vs, rfl, s, _⟩ := r.inv_dic; exact .base (.dK s.2)
  | scr ns => cases e
  | ref p =>
    have e' : (match G p with
      | some (.lst _) => some Kd.list
      | some (.dic _) => some Kd.dict
      | _ => none) = some k := e
    split at e'
    · rename_i q
      cases e'
      obtain ⟨_, vs, h1, _⟩ := h.go _ _ q
      rw [r.inv_ref]
      exact .base (.lst h1)
    · rename_i q
      cases e'
      obtain ⟨_, vs, h1, _⟩ := h.go _ _ q
      rw [r.inv_ref]
      exact .base (.dK h1)
    · cases e'
  | _ => cases e
def rIsi3 (T : Ty) : RC3 := fun ds G Q => match ds with
  | [d, _] => (match kdOf G d with
    | some k => Q (.bl (isTy T k)) G
    | none => False)
  | _ => False
section
variable {X : Cx} {B : BT} {e : Expr} {te : TE3} {pos p p2 : Pos}
/-- isinstance(e, T) -/
def lIsi (T : Ty) (te : TE3) : TE3 := fun τ G Q => te τ G fun d G1 => match kdOf G1 d with
    | some k => Q (.bl (isTy T k)) G1
    | none => False
theorem le_isi (T : Ty) {x : Str} (hg : Gl X "isinstance") (hm : X.mg "isinstance" = none) (hgT : Gl X x) (hmT : X.mg x = none) (hv : bootBuiltins x = some (.type T.nm)) (he : LE X B e te) (hn : x ≠ "__name__" := by decide) (hd : (x == ("__debug__" : Str)) = false := by decide)
    (hs : starEach [e, .Name x p2] X.env = (false, eval e X.env) :: starEach [.Name x p2] X.env := by rfl) (hpl : (backTo pos (starEach [.Name x p2] X.env)).any (·.1) = false := by rfl) : LE X B (.Call (.Name "isinstance" p) [e, .Name x p2] [] pos) (lIsi T te) :=
  (pe_callB call_isi hg hm PyProof.Rows.boot_isinstance (pa_cons he (pa_cons (pe_bltn (v := .ty T.nm) hgT hmT hv rfl hn hd) pa_nil (by rfl)) hs) (by decide) (by decide) hs hpl).imp fun σ H Q ⟨Fz, tv, τ, G, Q3, hB, r, ht, k⟩ => emb.mk hB r ht fun v H1 Fz1 d G1 r1 h1 => by
    cases e : kdOf G1 d with
    | none => rw [e] at h1; exact h1.elim
    | some kd =>
      rw [e] at h1
      exact ⟨v, .ty T.nm, _, _, isTy T kd, rfl, .ty _, tyX_of r1.hr r1.h1 e, kit_ty (kit_tab T kd), k _ _ (.mk r1.tl (.bl _) h1)⟩
/-- isinstance(e, (T, U)) -/
def lIsi2 (T U : Ty) (te : TE3) : TE3 := fun τ G Q => te τ G fun d G1 => match kdOf G1 d with
    | some k => Q (.bl (isTy T k || isTy U k)) G1
    | none => False
theorem kit_any2 {K : PySem.W.Frag} (T U : Ty) (k : Kd) : PySem.W.kitAny K (.type k.nm) [.type T.nm, .type U.nm] = some (isTy T k || isTy U k) := by
  refine kitAny_cons (kit_ty (kit_tab T k)) (fun h => ?_) (fun h => by rw [h]; rfl)
  rw [h, Bool.false_or]
  refine kitAny_cons (kit_ty (kit_tab U k)) (fun h => ?_) (fun h => h)
  rw [h]
  exact kitAny_nil
theorem le_isi2 (T U : Ty) {x y : Str} {n : Nat} {p3 p4 : Pos} (hg : Gl X "isinstance") (hm : X.mg "isinstance" = none) (hgT : Gl X x) (hmT : X.mg x = none) (hv : bootBuiltins x = some (.type T.nm)) (hgU : Gl X y) (hmU : X.mg y = none) (hvU : bootBuiltins y = some (.type U.nm)) (he : LE X B e te)
    (hn : x ≠ "__name__" := by decide) (hd : (x == ("__debug__" : Str)) = false := by decide) (hn' : y ≠ "__name__" := by decide) (hd' : (y == ("__debug__" : Str)) = false := by decide)
    (hs : starEach [e, .Tuple [.Name x p2, .Name y p3] n p4] X.env = (false, eval e X.env) :: starEach [.Tuple [.Name x p2, .Name y p3] n p4] X.env := by rfl) (hpl : (backTo pos (starEach [.Tuple [.Name x p2, .Name y p3] n p4] X.env)).any (·.1) = false := by rfl) : LE X B (.Call (.Name "isinstance" p) [e, .Tuple [.Name x p2, .Name y p3] n p4] [] pos) (lIsi2 T U te) :=
  (pe_callB call_isiT hg hm PyProof.Rows.boot_isinstance (pa_cons he (pa_cons (pe_tup (pa_cons (pe_bltn (v := .ty T.nm) hgT hmT hv rfl hn hd) (pa_cons (pe_bltn (v := .ty U.nm) hgU hmU hvU rfl hn' hd') pa_nil (by rfl)) (by rfl))) pa_nil (by rfl)) hs) (by decide) (by decide) hs hpl).imp fun σ H Q ⟨Fz, tv, τ, G, Q3, hB, r, ht, k⟩ => emb.mk hB r ht fun v H1 Fz1 d G1 r1 h1 => by
    refine ⟨by show 2 ≤ sizeLine; decide, fun t0 hp => ?_⟩
    cases e : kdOf G1 d with
    | none => rw [e] at h1; exact h1.elim
    | some kd =>
      rw [e] at h1
      have r2 := r1.new (o := .tup [.ty T.nm, .ty U.nm]) hp
      exact ⟨v, t0, [.ty T.nm, .ty U.nm], _, [.type T.nm, .type U.nm], isTy T kd || isTy U kd, rfl, upd_same, .cons (.ty _) (.cons (.ty _) .nil), tyX_of r2.hr r2.h1 e, kit_any2 T U kd, k _ _ (.mk r2.tl (.bl _) h1)⟩
end

/-! ### built-ins -/
section
variable {K : PySem.W.Frag}
def rList3 : RC3 := fun ds G Q => match ds with
  | [d] => (match itemsOf G d with
    | some xs => Q (.lst xs) G
    | none => False)
  | _ => False
/-- a list of its own that may change -/
def rListG3 : RC3 := fun ds G Q => match ds with
  | [d] => (match itemsOf G d with
    | some xs => ∀ p, G p = none → Q (.ref p) (gup G p (.lst xs))
    | none => False)
  | _ => False
theorem sim_list : SimC K (fun xs H Q => ∃ p ys, xs = [.ref p] ∧ (SqL K H p ys ∨ SqT K H p ys) ∧ ∀ l, H l = none → Q (.ref l) (upd H l (.lst ys))) rList3 := by
  intro Fz σ H tv τ G vs ds Q Q3 rs r h k
  match ds, h with
  | [d], h =>
    obtain ⟨v, rfl, rv⟩ := rs.one_inv
    have h' : (match itemsOf G d with
      | some xs => Q3 (.lst xs) G
      | none => False) := h
    cases e : itemsOf G d with
    | none => rw [e] at h'; exact h'.elim
    | some xs =>
      rw [e] at h'
      obtain ⟨a, ws, rfl, hs, rq⟩ := items_at r.hr rv e
      exact ⟨a, ws, rfl, hs, fun l hl => k _ _ (.mk (r.new hl) (Rep.mk_lst Rel.stl (rq.ext (r.ext1 hl))) h')⟩
  | [], h => exact h.elim
  | _ :: _ :: _, h => exact h.elim
theorem sim_listG : SimC K (fun xs H Q => ∃ p ys, xs = [.ref p] ∧ (SqL K H p ys ∨ SqT K H p ys) ∧ ∀ l, H l = none → Q (.ref l) (upd H l (.lst ys))) rListG3 := by
  intro Fz σ H tv τ G vs ds Q Q3 rs r h k
  match ds, h with
  | [d], h =>
    obtain ⟨v, rfl, rv⟩ := rs.one_inv
    have h' : (match itemsOf G d with
      | some xs => ∀ p, G p = none → Q3 (.ref p) (gup G p (.lst xs))
      | none => False) := h
    cases e : itemsOf G d with
    | none => rw [e] at h'; exact h'.elim
    | some xs =>
      rw [e] at h'
      obtain ⟨a, ws, rfl, hs, rq⟩ := items_at r.hr rv e
      exact ⟨a, ws, rfl, hs, fun l hl => k _ _ (.mk (r.ext (Ext.newG r.hr hl) (r.hr.newG (g := .lst xs) hl ⟨ws, upd_same, rq.ext (Ext.newG r.hr hl)⟩)) (.ref l) (h' l (r.hr.free hl)))⟩
  | [], h => exact h.elim
  | _ :: _ :: _, h => exact h.elim
def rTuple3 : RC3 := fun ds G Q => match ds with
  | [d] => (match itemsOf G d with
    | some xs => Q (.tup xs) G
    | none => False)
  | _ => False
theorem sim_tuple : SimC K (fun xs H Q => ∃ p ys, xs = [.ref p] ∧ ((SqL K H p ys ∧ ∀ l, H l = none → Q (.ref l) (upd H l (.tup ys))) ∨ (SqT K H p ys ∧ Q (.ref p) H))) rTuple3 := by
  intro Fz σ H tv τ G vs ds Q Q3 rs r h k
  match ds, h with
  | [d], h =>
    obtain ⟨v, rfl, rv⟩ := rs.one_inv
    have h' : (match itemsOf G d with
      | some xs => Q3 (.tup xs) G
      | none => False) := h
    have lst : ∀ xs, lstOf G d = some xs → Q3 (.tup xs) G → (∃ p ys, [v] = [.ref p] ∧ ((SqL K H p ys ∧ ∀ l, H l = none → Q (.ref l) (upd H l (.tup ys))) ∨ (SqT K H p ys ∧ Q (.ref p) H))) := fun xs e q => by
      obtain ⟨a, ws, rfl, hs, rq⟩ := lst_at r.hr rv e
      exact ⟨a, ws, rfl, .inl ⟨SqL.of hs, fun l hl => k _ _ (.mk (r.new hl) (Rep.mk_tup Rel.stl (rq.ext (r.ext1 hl))) q)⟩⟩
    cases d with
    | tup xs =>
      obtain ⟨a, ws, rfl, s, rq⟩ := rv.inv_tup
      exact ⟨a, ws, rfl, .inr ⟨sqT_of s, k _ _ (.mk r rv h')⟩⟩
    | lst xs => exact lst xs rfl h'
    | ref p =>
      have h2 : (match lstOf G (.ref p) with
        | some xs => Q3 (.tup xs) G
        | none => False) := h'
      cases e : lstOf G (.ref p) with
      | none => rw [e] at h2; exact h2.elim
      | some xs => rw [e] at h2; exact lst xs e h2
    | _ => exact h'.elim
  | [], h => exact h.elim
  | _ :: _ :: _, h => exact h.elim
/-- a list of truths -/
def blsOf : List D → Option (List Bool)
  | [] => some []
  | .bl b :: r => (blsOf r).map (b :: ·)
  | _ => none
theorem blsOf_map {α : Type} (f : α → Bool) : ∀ xs : List α, blsOf (xs.map fun x => .bl (f x)) = some (xs.map f)
  | [] => rfl
  | x :: xs => by show (blsOf (xs.map fun x => D.bl (f x))).map (f x :: ·) = _; rw [blsOf_map f xs]; rfl
theorem bls_vals {Fz : Addr → Prop} {H : Hp} : ∀ {ds : List D} {vs : List V} {bs : List Bool}, Reps K Fz H vs ds → blsOf ds = some bs → vs = bs.map V.bl
  | [], vs, bs, r, e => by cases e; exact r.inv_nil
  | d :: ds, vs, bs, r, e => by
    obtain ⟨v, ws, rfl, r1, r2⟩ := r.inv_cons
    cases d with
    | bl b =>
      have e' : (blsOf ds).map (b :: ·) = some bs := e
      cases e2 : blsOf ds with
      | none => rw [e2] at e'; cases e'
      | some cs =>
        rw [e2] at e'
        cases e'
        rw [r1.inv_bl, bls_vals r2 e2]; rfl
    | _ => cases e
def rAll3 : RC3 := fun ds G Q => match ds with
  | [d] => (match (lstOf G d).bind blsOf with
    | some bs => Q (.bl (bs.all id)) G
    | none => False)
  | _ => False
def rAny3 : RC3 := fun ds G Q => match ds with
  | [d] => (match (lstOf G d).bind blsOf with
    | some bs => Q (.bl (bs.any id)) G
    | none => False)
  | _ => False
theorem bls_at {Fz : Addr → Prop} {H : Hp} {G : Gp} {v : V} {d : D} {bs : List Bool} (h : HRel K Fz H G) (r : Rep K Fz H v d) (e : (lstOf G d).bind blsOf = some bs) : ∃ a, v = .ref a ∧ SqL K H a (bs.map V.bl) := by
  cases e2 : lstOf G d with
  | none => rw [e2] at e; cases e
  | some ds =>
    rw [e2] at e
    obtain ⟨a, vs, rfl, h1, rq⟩ := lst_at h r e2
    rw [bls_vals rq e] at h1
    exact ⟨a, rfl, SqL.of h1⟩
theorem sim_all : SimC K (rAll K) rAll3 := by
  intro Fz σ H tv τ G vs ds Q Q3 rs r h k
  match ds, h with
  | [d], h =>
    obtain ⟨v, rfl, rv⟩ := rs.one_inv
    have h' : (match (lstOf G d).bind blsOf with
      | some bs => Q3 (.bl (bs.all id)) G
      | none => False) := h
    cases e : (lstOf G d).bind blsOf with
    | none => rw [e] at h'; exact h'.elim
    | some bs =>
      rw [e] at h'
      obtain ⟨a, rfl, hs⟩ := bls_at r.hr rv e
      exact ⟨a, bs, rfl, hs, k _ _ (.mk r (.bl _) h')⟩
  | [], h => exact h.elim
  | _ :: _ :: _, h => exact h.elim
theorem sim_any : SimC K (rAny K) rAny3 := by
  intro Fz σ H tv τ G vs ds Q Q3 rs r h k
  match ds, h with
  | [d], h =>
    obtain ⟨v, rfl, rv⟩ := rs.one_inv
    have h' : (match (lstOf G d).bind blsOf with
      | some bs => Q3 (.bl (bs.any id)) G
      | none => False) := h
    cases e : (lstOf G d).bind blsOf with
    | none => rw [e] at h'; exact h'.elim
    | some bs =>
      rw [e] at h'
      obtain ⟨a, rfl, hs⟩ := bls_at r.hr rv e
      exact ⟨a, bs, rfl, hs, k _ _ (.mk r (.bl _) h')⟩
  | [], h => exact h.elim
  | _ :: _ :: _, h => exact h.elim
def rAbs3 : RC3 := fun ds G Q => match ds with
  | [.int i] => Q (.int (if i < 0 then -i else i)) G
  | _ => False
theorem sim_abs : SimC K (fun xs H Q => ∃ i, xs = [.int i] ∧ Q (.int (if i < 0 then -i else i)) H) rAbs3 := by
  intro Fz σ H tv τ G vs ds Q Q3 rs r h k
  match ds, h with
  | [.int i], h =>
    obtain ⟨v, rfl, rv⟩ := rs.one_inv
    exact ⟨i, by rw [rv.inv_int], k _ _ (.mk r (.int _) h)⟩
def rMax3 : RC3 := fun ds G Q => match ds with
  | [.int i, .int j] => Q (.int (if j > i then j else i)) G
  | _ => False
theorem sim_max : SimC K (fun xs H Q => ∃ i j, xs = [.int i, .int j] ∧ Q (.int (if j > i then j else i)) H) rMax3 := by
  intro Fz σ H tv τ G vs ds Q Q3 rs r h k
  match ds, h with
  | [.int i, .int j], h =>
    obtain ⟨v, u, rfl, rv, ru⟩ := rs.two_inv
    exact ⟨i, j, by rw [rv.inv_int, ru.inv_int], k _ _ (.mk r (.int _) h)⟩
def rMin3 : RC3 := fun ds G Q => match ds with
  | [.int i, .int j] => Q (.int (if j < i then j else i)) G
  | _ => False
theorem sim_min : SimC K (fun xs H Q => ∃ i j, xs = [.int i, .int j] ∧ Q (.int (if j < i then j else i)) H) rMin3 := by
  intro Fz σ H tv τ G vs ds Q Q3 rs r h k
  match ds, h with
  | [.int i, .int j], h =>
    obtain ⟨v, u, rfl, rv, ru⟩ := rs.two_inv
    exact ⟨i, j, by rw [rv.inv_int, ru.inv_int], k _ _ (.mk r (.int _) h)⟩
def rInt3' : RC3 := fun ds G Q => match ds with
  | [.int i] => Q (.int i) G
  | [.bl b] => Q (.int (if b then 1 else 0)) G
  | _ => False
theorem sim_int : SimC K (fun xs H Q => (∃ i, xs = [.int i] ∧ Q (.int i) H) ∨ ∃ k, xs = [.bl k] ∧ Q (.int (if k then 1 else 0)) H) rInt3' := by
  intro Fz σ H tv τ G vs ds Q Q3 rs r h k
  match ds, h with
  | [.int i], h =>
    obtain ⟨v, rfl, rv⟩ := rs.one_inv
    exact .inl ⟨i, by rw [rv.inv_int], k _ _ (.mk r (.int _) h)⟩
  | [.bl b], h =>
    obtain ⟨v, rfl, rv⟩ := rs.one_inv
    exact .inr ⟨b, by rw [rv.inv_bl], k _ _ (.mk r (.int _) h)⟩
/-- a list of ints -/
def intsOf : List D → Option (List Int)
  | [] => some []
  | .int b :: r => (intsOf r).map (b :: ·)
  | _ => none
theorem intsOf_map {α : Type} (f : α → Int) : ∀ xs : List α, intsOf (xs.map fun x => .int (f x)) = some (xs.map f)
  | [] => rfl
  | x :: xs => by show (intsOf (xs.map fun x => D.int (f x))).map (f x :: ·) = _; rw [intsOf_map f xs]; rfl
theorem ints_vals {Fz : Addr → Prop} {H : Hp} : ∀ {ds : List D} {vs : List V} {bs : List Int}, Reps K Fz H vs ds → intsOf ds = some bs → vs = bs.map V.int
  | [], vs, bs, r, e => by cases e; exact r.inv_nil
  | d :: ds, vs, bs, r, e => by
    obtain ⟨v, ws, rfl, r1, r2⟩ := r.inv_cons
    cases d with
    | int b =>
      have e' : (intsOf ds).map (b :: ·) = some bs := e
      cases e2 : intsOf ds with
      | none => rw [e2] at e'; cases e'
      | some cs =>
        rw [e2] at e'
        cases e'
        rw [r1.inv_int, ints_vals r2 e2]; rfl
    | _ => cases e
def rSum3 : RC3 := fun ds G Q => match ds with
  | [d] => (match (lstOf G d).bind intsOf with
    | some bs => Q (.int bs.sum) G
    | none => False)
  | _ => False
theorem sim_sum : SimC K (rSum K) rSum3 := by
  intro Fz σ H tv τ G vs ds Q Q3 rs r h k
  match ds, h with
  | [d], h =>
    obtain ⟨v, rfl, rv⟩ := rs.one_inv
    have h' : (match (lstOf G d).bind intsOf with
      | some bs => Q3 (.int bs.sum) G
      | none => False) := h
    cases e2 : lstOf G d with
    | none => rw [e2] at h'; exact h'.elim
    | some xs =>
      rw [e2, Option.bind_some] at h'
      cases e : intsOf xs with
      | none => rw [e] at h'; exact h'.elim
      | some bs =>
        rw [e] at h'
        obtain ⟨a, ws, rfl, h1, rq⟩ := lst_at r.hr rv e2
        rw [ints_vals rq e] at h1
        exact ⟨a, bs, rfl, SqL.of h1, k _ _ (.mk r (.int _) h')⟩
  | [], h => exact h.elim
  | _ :: _ :: _, h => exact h.elim
/-- a list of texts -/
def strsOf : List D → Option (List Str)
  | [] => some []
  | .str b :: r => (strsOf r).map (b :: ·)
  | _ => none
theorem strsOf_map {α : Type} (f : α → Str) : ∀ xs : List α, strsOf (xs.map fun x => .str (f x)) = some (xs.map f)
  | [] => rfl
  | x :: xs => by show (strsOf (xs.map fun x => D.str (f x))).map (f x :: ·) = _; rw [strsOf_map f xs]; rfl
theorem strs_vals {Fz : Addr → Prop} {H : Hp} : ∀ {ds : List D} {vs : List V} {bs : List Str}, Reps K Fz H vs ds → strsOf ds = some bs → vs = bs.map V.str
  | [], vs, bs, r, e => by cases e; exact r.inv_nil
  | d :: ds, vs, bs, r, e => by
    obtain ⟨v, ws, rfl, r1, r2⟩ := r.inv_cons
    cases d with
    | str b =>
      have e' : (strsOf ds).map (b :: ·) = some bs := e
      cases e2 : strsOf ds with
      | none => rw [e2] at e'; cases e'
      | some cs =>
        rw [e2] at e'
        cases e'
        rw [r1.inv_str, strs_vals r2 e2]; rfl
    | _ => cases e
theorem reps_strs {Fz : Addr → Prop} {H : Hp} (ys : List Str) : Reps K Fz H (ys.map V.str) (ys.map D.str) :=
  ⟨by simp, fun i v d a b => by
    rw [List.getElem?_map] at a b
    cases e : ys[i]? with
    | none => rw [e] at a; cases a
    | some y => rw [e] at a b; cases a; cases b; exact .str y⟩
end
section
variable {X : Cx} {B : BT} {o e : Expr} {to te : TE3} {pos apos : Pos}
/-- sep.join(xs) -/
def lJoin (to te : TE3) : TE3 := fun τ G Q => to τ G fun x G1 => match x with
  | .str a => te τ G1 fun y G2 => (match (itemsOf G2 y).bind strsOf with
    | some ys => (ys.map (·.length)).sum + ys.length * a.length ≤ 16777216 ∧ Q (.str (Txt.join a ys)) G2
    | none => False)
  | _ => False
theorem le_join (ho : LE X B o to) (he : LE X B e te) (hs : starEach [e] X.env = [(false, eval e X.env)] := by rfl) (hbase : attributeBase o "join" X.env (eval o X.env) = eval o X.env := by rfl) (hline : (apos.endLine == pos.line) = true := by rfl) : LE X B (.Call (.Attribute o "join" apos) [e] [] pos) (lJoin to te) :=
  (pe_join ho he hs hbase hline).imp fun σ H Q ⟨Fz, tv, τ, G, Q3, hB, r, ht, k⟩ => emb.mk hB r ht fun v H1 Fz1 x G1 r1 h1 => by
    cases x with
    | str a =>
      refine ⟨⟨a, r1.h1.inv_str⟩, emb.mk (subB hB) r1 h1 fun u H2 Fz2 y G2 r2 h2 => ?_⟩
      cases e2 : itemsOf G2 y with
      | none => rw [e2] at h2; exact h2.elim
      | some xs =>
        rw [e2, Option.bind_some] at h2
        cases e : strsOf xs with
        | none => rw [e] at h2; exact h2.elim
        | some ys =>
          rw [e] at h2
          obtain ⟨q, ws, rfl, hs, rq⟩ := items_at r2.hr r2.h1 e2
          rw [strs_vals rq e] at hs
          exact ⟨a, q, ys, r2.h2.inv_str, rfl, hs, h2.1, k _ _ (.mk r2.tl2 (.str _) h2.2)⟩
    | _ => exact h1.elim
/-- s.split(sep) -/
def lSplit (to te : TE3) : TE3 := fun τ G Q => to τ G fun x G1 => match x with
  | .str a => te τ G1 fun y G2 => (match y with
    | .str b => (b.length == 0) = false ∧ a.length + 2 ≤ sizeLine ∧ Q (.lst ((Txt.split a b).map .str)) G2
    | _ => False)
  | _ => False
theorem le_split (ho : LE X B o to) (he : LE X B e te) (hs : starEach [e] X.env = [(false, eval e X.env)] := by rfl) (hbase : attributeBase o "split" X.env (eval o X.env) = eval o X.env := by rfl) (hline : (apos.endLine == pos.line) = true := by rfl) : LE X B (.Call (.Attribute o "split" apos) [e] [] pos) (lSplit to te) :=
  (pe_split ho he hs hbase hline).imp fun σ H Q ⟨Fz, tv, τ, G, Q3, hB, r, ht, k⟩ => emb.mk hB r ht fun v H1 Fz1 x G1 r1 h1 => by
    cases x with
    | str a =>
      refine ⟨⟨a, r1.h1.inv_str⟩, emb.mk (subB hB) r1 h1 fun u H2 Fz2 y G2 r2 h2 => ?_⟩
      cases y with
      | str b => exact ⟨a, b, r2.h2.inv_str, by rw [r2.h1.inv_str], h2.1, h2.2.1, fun p hp => k _ _ (.mk (r2.tl2.new hp) (Rep.mk_lst Rel.stl (reps_strs _)) h2.2.2)⟩
      | _ => exact h2.elim
    | _ => exact h1.elim
/-- s.split() -/
def lWords (to : TE3) : TE3 := fun τ G Q => to τ G fun x G1 => match x with
  | .str a => a.length + 2 ≤ sizeLine ∧ Q (.lst ((Txt.words a).map .str)) G1
  | _ => False
theorem le_words (ho : LE X B o to) (hbase : attributeBase o "split" X.env (eval o X.env) = eval o X.env := by rfl) (hline : (apos.endLine == pos.line) = true := by rfl) : LE X B (.Call (.Attribute o "split" apos) [] [] pos) (lWords to) :=
  (pe_words ho hbase hline).imp fun σ H Q ⟨Fz, tv, τ, G, Q3, hB, r, ht, k⟩ => emb.mk hB r ht fun v H1 Fz1 x G1 r1 h1 => by
    cases x with
    | str a => exact ⟨⟨a, r1.h1.inv_str⟩, a, r1.h1.inv_str, rfl, h1.1, fun p hp => k _ _ (.mk (r1.tl.new hp) (Rep.mk_lst Rel.stl (reps_strs _)) h1.2)⟩
    | _ => exact h1.elim
/-- list(range(n)) -/
def rgD (a b : Int) : List D := (List.range (b - a).toNat).map fun i => D.int (a + (i : Nat))
theorem reps_rg {K : PySem.W.Frag} {Fz : Addr → Prop} {H : Hp} (a b : Int) : Reps K Fz H (rgV a b) (rgD a b) :=
  ⟨by unfold rgV rgD; rw [List.length_map, List.length_map], fun i v d h1 h2 => by
    unfold rgV at h1
    unfold rgD at h2
    rw [List.getElem?_map] at h1 h2
    cases e : (List.range (b - a).toNat)[i]? with
    | none => rw [e] at h1; cases h1
    | some y => rw [e] at h1 h2; cases h1; cases h2; exact .int _⟩
def lListRg (te : TE3) : TE3 := fun τ G Q => te τ G fun x G1 => match x with
  | .int n => RgOk 0 n ∧ Q (.lst (rgD 0 n)) G1
  | _ => False
theorem le_listRg {p p2 pos2 : Pos} (hc : X.calm = true) (hg : Gl X "list") (hm : X.mg "list" = none) (hgr : Gl X "range") (hmr : X.mg "range" = none) (he : LE X B e te) (na : starEach [e] X.env = (false, eval e X.env) :: starEach [] X.env := by rfl)
    (na2 : starEach [.Call (.Name "range" p2) [e] [] pos2] X.env = (false, eval (.Call (.Name "range" p2) [e] [] pos2) X.env) :: starEach [] X.env := by rfl) : LE X B (.Call (.Name "list" p) [.Call (.Name "range" p2) [e] [] pos2] [] pos) (lListRg te) :=
  (pe_listRg hc hg hm (prg_1 hgr hmr he na) na2).imp fun σ H Q ⟨Fz, tv, τ, G, Q3, hB, r, ht, k⟩ => emb.mk hB r ht fun v H1 Fz1 x G1 r1 h1 => by
    cases x with
    | int n => exact ⟨n, r1.h1.inv_int, h1.1, fun q hq => k _ _ (.mk (r1.tl.new hq) (Rep.mk_lst Rel.stl (reps_rg 0 n)) h1.2)⟩
    | _ => exact h1.elim
end
end L3
end

section
set_option Elab.async false
set_option linter.all false
set_option maxRecDepth 100000
set_option maxHeartbeats 4000000
/-! L3s: a, b, *c = a tuple or a list (the star last). -/
namespace L3
open PySem PySem.Spec PyProof.Rows L2
section
variable {prog : Program} {w : World} {A : Around} {E : Value → Shared → Prop} {s : Shared}
/-- a walk from its i-th turn on -/
theorem walks_from {I : Addr} {fp wr : List Addr} {n : Nat} {P : Nat → Value → Prop} {St : Nat → Heap → Prop} (W : Walks prog w A I fp wr n P St) (i : Nat) (hi : i ≤ n) :
    Walks prog w A I fp wr (n - i) (fun j => P (i + j)) (fun j => St (i + j)) where
  sub := W.sub
  frame := fun j h h' st k => W.frame (i + j) h h' st k
  item := fun j s Q E hj st hQ => W.item (i + j) s Q E (by omega) st fun v h' tk p st' k => hQ v h' tk p st' k
  done := fun s Q E st hQ => W.done s Q E (by rw [show i + (n - i) = n by omega] at st; exact st) hQ
  self := fun j s Q E st q => W.self (i + j) s Q E st q
theorem items_drop {items acc : Array Value} {i : Nat} (hi : i ≤ items.size) (h : ItemsOf (fun j v => items[i + j]? = some v) acc (items.size - i)) : acc.toList = items.toList.drop i := by
  refine List.ext_getElem? fun j => ?_
  rw [List.getElem?_drop]
  by_cases hj : j < acc.size
  · have h1 := h.2 j acc[j] (by simp [hj])
    rw [Array.getElem?_toList, Array.getElem?_toList, h1]
    simp [hj]
  · have h2 : items.size ≤ i + j := by have := h.1; omega
    rw [List.getElem?_eq_none (by simpa using hj), List.getElem?_eq_none (by simpa using h2)]
theorem unpackStar_tuple {t : Addr} {items : Array Value} {i : Nat} {Q : List Value → Shared → Prop} (hh : A.handled = none) (ht : IsTup s.heap t items) (hi : i ≤ items.size) (hz : items.size ≤ sizeLine)
    (hQ : ∀ (h' : Heap) tk, (∀ b o, s.heap.get? b = some o → h'.get? b = some o) → Q (items.toList.take i ++ [.ref h'.objs.size]) { s with heap := h'.push { cls := .type "list", data := .seq (items.toList.drop i).toArray }, toks := tk }) :
    wpAny (model prog w) A (unpackItems (.ref t) (i + 1) (some i)) Q E s := by
  have hlt : t ≠ s.heap.objs.size := by obtain ⟨o, ho, _⟩ := ht; exact Nat.ne_of_lt (Heap.lt_size ho)
  unfold unpackItems
  refine wpAny_bind ?_
  unfold notIterableAtAll
  refine wpAny_bind (wpAny_specialOf ht.typeIs slot_tuple_iter.lookup ?_)
  refine wpAny_pure ?_
  simp only [Bool.false_eq_true, if_false]
  refine wpAny_bind (wpAny_holding (iter_tuple ht ?_))
  refine wpAny_bind (wpAny_holding (draw_tuple hlt i 0 _ _ ⟨_, Heap.get?_push_size _ rfl, rfl, rfl⟩ (ht.push _) (by omega) fun h₁ hit₁ hs₁ => ?_))
  rw [List.drop_zero]
  rw [if_neg (by rw [List.length_take, Array.length_toList]; omega)]
  have ht₁ : IsTup h₁ t items := (ht.push _).extBut hs₁.extBut hlt
  have hitlt : s.heap.objs.size < h₁.objs.size := by obtain ⟨o, ho, _⟩ := hit₁; exact Heap.lt_size ho
  have hit₁t : h₁.IsTupleIter s.heap.objs.size t (i + 0) := by
    have e0 : 0 + i = i + 0 := by omega
    rw [← e0]
    exact hit₁
  have W := walks_from (Walks.tuple (prog := prog) (w := w) (A := A.in1) hh s.heap.objs.size t hlt items) i hi
  refine wpAny_bind (wpAny_holding (wpAny_collect_iter (T := "tuple_iterator") (.inr (.inr (.inr rfl))) W.toS (fun j s' st => ?_) ?_ (fun b hb => ?_) (by simp) (fun s' acc hm ha => ?_) (by omega)))
  · obtain ⟨⟨o, ho, hc, _⟩, _⟩ := st; exact ⟨o, ho, hc⟩
  · exact ⟨hit₁t, ht₁⟩
  · rcases List.mem_cons.mp hb with e | hb
    · rw [e]; exact hitlt
    · rw [List.mem_singleton.mp hb]; exact ht₁.lt
  have el := items_drop hi ha
  rw [if_neg (by rw [el, List.length_drop, Array.length_toList]; omega)]
  have e1 : acc.toList.length - (i + 1 - 1 - i) = acc.toList.length := by omega
  rw [e1, List.take_of_length_le (Nat.le_refl _), List.drop_of_length_le (Nat.le_refl _), el]
  refine wpAny_bind (wpAny_newList ?_ (by rw [List.length_drop, Array.length_toList]; omega))
  rw [List.append_nil]
  obtain ⟨hp, g, d, tk, os⟩ := s'
  obtain rfl : g = s.gens := hm.gens
  obtain rfl : d = s.drawn := hm.drawn
  obtain rfl : os = s.os := hm.os
  refine wpAny_pure (hQ hp tk fun b o e => ?_)
  have hb : b ≠ s.heap.objs.size := Nat.ne_of_lt (Heap.lt_size e)
  refine hm.heap b o (by simpa using hb) ?_
  exact hs₁.extBut b o hb (Heap.get?_push_of_some _ e)
theorem unpackStar_list {l : Addr} {items : Array Value} {i : Nat} {Q : List Value → Shared → Prop} (hh : A.handled = none) (ht : s.heap.IsList l items) (hi : i ≤ items.size) (hz : items.size ≤ sizeLine)
    (hQ : ∀ (h' : Heap) tk, (∀ b o, s.heap.get? b = some o → h'.get? b = some o) → Q (items.toList.take i ++ [.ref h'.objs.size]) { s with heap := h'.push { cls := .type "list", data := .seq (items.toList.drop i).toArray }, toks := tk }) :
    wpAny (model prog w) A (unpackItems (.ref l) (i + 1) (some i)) Q E s := by
  have hlt : l ≠ s.heap.objs.size := by obtain ⟨o, ho, _⟩ := ht; exact Nat.ne_of_lt (Heap.lt_size ho)
  unfold unpackItems
  refine wpAny_bind ?_
  unfold notIterableAtAll
  refine wpAny_bind (wpAny_specialOf ht.typeIs slot_list_iter.lookup ?_)
  refine wpAny_pure ?_
  simp only [Bool.false_eq_true, if_false]
  refine wpAny_bind (wpAny_holding (wpAny_pyIter_list ht ?_))
  refine wpAny_bind (wpAny_holding (PySem.W.kun_draw hlt i 0 _ _ ⟨_, Heap.get?_push_size _ rfl, rfl, rfl⟩ (ht.push _) (by omega) fun h₁ hit₁ hs₁ => ?_))
  rw [List.drop_zero]
  rw [if_neg (by rw [List.length_take, Array.length_toList]; omega)]
  have ht₁ : h₁.IsList l items := (ht.push _).extBut hs₁.extBut hlt
  have hitlt : s.heap.objs.size < h₁.objs.size := by obtain ⟨o, ho, _⟩ := hit₁; exact Heap.lt_size ho
  have W := walks_from (Walks.list (prog := prog) (w := w) (A := A.in1) hh s.heap.objs.size l hlt items) i hi
  refine wpAny_bind (wpAny_holding (wpAny_collect_iter (T := "list_iterator") (.inr (.inr (.inl rfl))) W.toS (fun j s' st => ?_) ?_ (fun b hb => ?_) (by simp) (fun s' acc hm ha => ?_) (by omega)))
  · obtain ⟨⟨o, ho, hc, _⟩, _⟩ := st; exact ⟨o, ho, hc⟩
  · exact ⟨by simpa using hit₁, ht₁⟩
  · rcases List.mem_cons.mp hb with e | hb
    · rw [e]; exact hitlt
    · rw [List.mem_singleton.mp hb]; obtain ⟨o, ho, _⟩ := ht₁; exact Heap.lt_size ho
  have el := items_drop hi ha
  rw [if_neg (by rw [el, List.length_drop, Array.length_toList]; omega)]
  have e1 : acc.toList.length - (i + 1 - 1 - i) = acc.toList.length := by omega
  rw [e1, List.take_of_length_le (Nat.le_refl _), List.drop_of_length_le (Nat.le_refl _), el]
  refine wpAny_bind (wpAny_newList ?_ (by rw [List.length_drop, Array.length_toList]; omega))
  rw [List.append_nil]
  obtain ⟨hp, g, d, tk, os⟩ := s'
  obtain rfl : g = s.gens := hm.gens
  obtain rfl : d = s.drawn := hm.drawn
  obtain rfl : os = s.os := hm.os
  refine wpAny_pure (hQ hp tk fun b o e => ?_)
  have hb : b ≠ s.heap.objs.size := Nat.ne_of_lt (Heap.lt_size e)
  refine hm.heap b o (by simpa using hb) ?_
  exact hs₁.extBut b o hb (Heap.get?_push_of_some _ e)
end
/-- *rest among targets -/
theorem pgs_star {X : Cx} {e : Expr} {p : Pos} {es : List Expr} {t : TG} {u : TGs} (h1 : PG X e t) (h2 : PGs X es u)
    (hs : (assignEach (.Starred e p :: es) X.env).map (·.2) = assign e X.env :: (assignEach es X.env).map (·.2) := by rfl) : PGs X (.Starred e p :: es) (gCons t u) := by
  refine ⟨fun pins s σ H vs us Q I r h => ?_⟩
  obtain ⟨v, vr, e1, h⟩ := h
  subst e1
  cases r with
  | cons r rr =>
    rw [hs]
    refine assignInOrder_cons (thn (h1.run pins s σ H _ _ _ I r h) fun _ s1 ⟨σ1, H1, I1, q1⟩ => ?_)
    exact h2.run pins s1 σ1 H1 _ _ Q I1 rr q1
/-- a, .., *c = a tuple or a list: i names ahead of the star -/
def gStar (K : PySem.W.Frag) (i : Nat) (t : TGs) : TG := fun v σ H Q => ∃ a xs, v = .ref a ∧ (SqL K H a xs ∨ SqT K H a xs) ∧ i ≤ xs.length ∧ ∀ p, H p = none → t (xs.take i ++ [.ref p]) σ (upd H p (.lst (xs.drop i))) Q
theorem pg_star {X : Cx} {pos : Pos} {es : List Expr} {k i : Nat} {t : TGs} (hc : X.calm = true) (h : PGs X es t)
    (hn : (assignEach es X.env).length = i + 1 := by rfl) (hst : (assignEach es X.env).findIdx? (·.1) = some i := by rfl) : PG X (.Tuple es k pos) (gStar X.K i t) := by
  refine ⟨fun pins s σ H v u Q I r hw => ?_⟩
  obtain ⟨a, xs, e1, hq, hi, hw⟩ := hw
  subst e1
  cases r
  have fin : ∀ (its : List Value), Vals xs its → xs.length ≤ sizeLine → ∀ (h' : Heap) tk, (∀ b o, s.heap.get? b = some o → h'.get? b = some o) →
      wpAny (model X.prog X.w) X.A (assignInOrder ((assignEach es X.env).map (·.2)) (its.take i ++ [.ref h'.objs.size])) (fun _ s' => ∃ σ' H', Inv X pins σ' H' s' ∧ Q σ' H') X.xe
        { s with heap := h'.push { cls := .type "list", data := .seq (its.drop i).toArray }, toks := tk } := fun its rv hz h' tk hk => by
    have I1 : Inv X pins σ H { s with heap := h', toks := tk } := I.kept hk
    have hp : H h'.objs.size = none := I1.hok.fresh (Nat.le_refl _)
    have I2 := I1.laid (a := h'.objs.size) (o := .lst (xs.drop i)) (t' := tk) (h' := h'.push { cls := .type "list", data := .seq (its.drop i).toArray }) (fun b o e => Heap.get?_push_of_some _ e) (Nat.le_refl _)
      ⟨by rw [List.length_drop]; omega, its.drop i, 0, rv.drop i, Heap.get?_push_size _ rfl⟩
    exact h.run pins _ σ _ _ _ Q I2 ((rv.take i).append (.cons (show L2.RelV (.ref h'.objs.size) (Value.ref h'.objs.size) from rfl) .nil)) (hw _ hp)
  rw [PyProof.Rows.assign_Tuple]
  refine wpAny_bind (wpAny_standAt ?_)
  unfold unpack
  rw [hn, hst]
  rcases hq with hq | hq
  · obtain ⟨its, rv, pl, hz⟩ := I.list hq
    have hl := rv.length
    refine wpAny_bind (wpAny_holding (unpackStar_list (I.ok.hd hc) pl.isList (by rw [List.size_toArray, ← hl]; exact hi) (by rw [List.size_toArray, ← hl]; exact hz) fun h' tk hk => fin its rv hz h' tk hk))
  · obtain ⟨its, rv, pl, hz⟩ := I.tuple hq
    have hl := rv.length
    refine wpAny_bind (wpAny_holding (unpackStar_tuple (I.ok.hd hc) pl (by rw [List.size_toArray, ← hl]; exact hi) (by rw [List.size_toArray, ← hl]; exact hz) fun h' tk hk => fin its rv hz h' tk hk))
end L3
end

section
set_option Elab.async false
set_option linter.all false
set_option maxRecDepth 100000
set_option maxHeartbeats 4000000
/-! L3e: targets, statements, calls. -/
namespace L3
open PySem PySem.Spec PyProof.Rows L2

/-! ### targets -/
abbrev TG3 := D → T3 → Gp → (T3 → Gp → Prop) → Prop
abbrev TGs3 := List D → T3 → Gp → (T3 → Gp → Prop) → Prop
/-- all slots but those at ms are as they were -/
def Out (ms : List Nat) (σ σ' : L2.St) : Prop := σ'.length = σ.length ∧ ∀ i, i ∉ ms → σ'[i]? = σ[i]?
theorem Out.refl (ms : List Nat) (σ : L2.St) : Out ms σ σ := ⟨rfl, fun _ _ => rfl⟩
theorem Out.trans {ms : List Nat} {σ σ' σ'' : L2.St} (a : Out ms σ σ') (b : Out ms σ' σ'') : Out ms σ σ'' := ⟨b.1.trans a.1, fun i h => (b.2 i h).trans (a.2 i h)⟩
theorem Out.mono {ms ns : List Nat} {σ σ' : L2.St} (a : Out ms σ σ') (h : ∀ i ∈ ms, i ∈ ns) : Out ns σ σ' := ⟨a.1, fun i hi => a.2 i fun z => hi (h i z)⟩
def embG (K : PySem.W.Frag) (B : BT) (ms : List Nat) (t : TG3) : TG := fun v σ H Q => ∃ Fz tv τ G d Q3, (∀ p ∈ B, p ∈ tv) ∧ Rel K tv τ G Fz σ H ∧ Rep K Fz H v d ∧ t d τ G Q3 ∧
  ∀ σ' τ' G' Fz' H', Out ms σ σ' → Rel K tv τ' G' Fz' σ' H' → Q3 τ' G' → Q σ' H'
def embGs (K : PySem.W.Frag) (B : BT) (ms : List Nat) (t : TGs3) : TGs := fun vs σ H Q => ∃ Fz tv τ G ds Q3, (∀ p ∈ B, p ∈ tv) ∧ Rel K tv τ G Fz σ H ∧ Reps K Fz H vs ds ∧ t ds τ G Q3 ∧
  ∀ σ' τ' G' Fz' H', Out ms σ σ' → Rel K tv τ' G' Fz' σ' H' → Q3 τ' G' → Q σ' H'
abbrev LG (X : Cx) (B : BT) (ms : List Nat) (tg : Expr) (t : TG3) : Prop := PG X tg (embG X.K B ms t)
abbrev LGs (X : Cx) (B : BT) (ms : List Nat) (tg : List Expr) (t : TGs3) : Prop := PGs X tg (embGs X.K B ms t)
theorem _root_.L2.PG.imp {X : Cx} {e : Expr} {t t' : TG} (h : PG X e t) (i : ∀ v σ H Q, t' v σ H Q → t v σ H Q) : PG X e t' := ⟨fun pins s σ H v u Q I r q => h.run pins s σ H v u Q I r (i v σ H Q q)⟩
theorem _root_.L2.PGs.imp {X : Cx} {e : List Expr} {t t' : TGs} (h : PGs X e t) (i : ∀ v σ H Q, t' v σ H Q → t v σ H Q) : PGs X e t' := ⟨fun pins s σ H v u Q I r q => h.run pins s σ H v u Q I r (i v σ H Q q)⟩
def gName3 (i : Nat) : TG3 := fun d τ G Q => Q (τ.set i (some d)) G
def gNil3 : TGs3 := fun ds τ G Q => match ds with
  | [] => Q τ G
  | _ => False
def gCons3 (t : TG3) (u : TGs3) : TGs3 := fun ds τ G Q => match ds with
  | d :: r => t d τ G fun τ' G' => u r τ' G' Q
  | [] => False
/-- a tuple, a list of n -/
def gTup3 (n : Nat) (t : TGs3) : TG3 := fun d τ G Q => match d with
  | .tup ds => ds.length = n ∧ t ds τ G Q
  | _ => False
def gLst3 (n : Nat) (t : TGs3) : TG3 := fun d τ G Q => match lstOf G d with
  | some ds => ds.length = n ∧ t ds τ G Q
  | none => False
def gStar3 (i : Nat) (t : TGs3) : TG3 := fun d τ G Q => match itemsOf G d with
  | some ds => i ≤ ds.length ∧ t (ds.take i ++ [.lst (ds.drop i)]) τ G Q
  | none => False
section
variable {X : Cx} {B : BT} {ms : List Nat} {pos : Pos} {e : Expr} {es : List Expr} {t : TG3} {u : TGs3}
theorem lg_name (i : Nat) {x : Str} (hN : X.N.Nodup) (hm : i ∈ ms := by decide) (hi : X.N[i]? = some x := by rfl) (hx : Loc X.env.scope x := by first | exact Or.inl rfl | exact Or.inr rfl) (hf : X.fn x = true ∨ X.env.scope.names.lookup x = some .local := by first | exact .inl rfl | exact .inr rfl | assumption) : LG X B ms (.Name x pos) (gName3 i) :=
  (pg_name hN hi hx hf).imp fun v σ H Q ⟨Fz, tv, τ, G, d, Q3, hB, r, rv, ht, k⟩ => k _ _ G Fz H ⟨List.length_set, fun j hj => List.getElem?_set_ne fun e => hj (by rw [← e]; exact hm)⟩ (r.set rv i) ht
theorem lgs_nil : LGs X B ms [] gNil3 := pgs_nil.imp fun v σ H Q ⟨Fz, tv, τ, G, ds, Q3, hB, r, rv, ht, k⟩ => by
  cases ds with
  | nil => exact ⟨rv.inv_nil, k _ _ G Fz H (.refl _ _) r ht⟩
  | cons _ _ => exact ht.elim
theorem gCons_of {σ : L2.St} {H : Hp} {vs : List V} {Q : L2.St → Hp → Prop} (h : embGs X.K B ms (gCons3 t u) vs σ H Q) : gCons (embG X.K B ms t) (embGs X.K B ms u) vs σ H Q := by
  obtain ⟨Fz, tv, τ, G, ds, Q3, hB, r, rv, ht, k⟩ := h
  cases ds with
  | nil => exact ht.elim
  | cons d ds =>
    obtain ⟨v, ws, rfl, r1, r2⟩ := rv.inv_cons
    refine ⟨v, ws, rfl, Fz, ws.zip ds ++ tv, τ, G, d, _, fun p hp => List.mem_append_right _ (hB p hp), r.pushs r2, r1, ht, fun σ' τ' G' Fz' H' o' r' h' => ?_⟩
    exact ⟨Fz', tv, τ', G', ds, _, hB, r'.sub fun p hp => List.mem_append_right _ hp, .of_mem r2.len fun p hp => r'.tmp p (List.mem_append_left _ hp), h', fun σ2 τ2 G2 Fz2 H2 o2 r2 q => k σ2 τ2 G2 Fz2 H2 (o'.trans o2) r2 q⟩
theorem lgs_cons (h1 : LG X B ms e t) (h2 : LGs X B ms es u) (hs : (assignEach (e :: es) X.env).map (·.2) = assign e X.env :: (assignEach es X.env).map (·.2) := by rfl) : LGs X B ms (e :: es) (gCons3 t u) :=
  (pgs_cons h1 h2 hs).imp fun _ _ _ _ h => gCons_of h
theorem lgs_star {p : Pos} (h1 : LG X B ms e t) (h2 : LGs X B ms es u) (hs : (assignEach (.Starred e p :: es) X.env).map (·.2) = assign e X.env :: (assignEach es X.env).map (·.2) := by rfl) : LGs X B ms (.Starred e p :: es) (gCons3 t u) :=
  (pgs_star h1 h2 hs).imp fun _ _ _ _ h => gCons_of h
theorem lg_tup {k n : Nat} (hc : X.calm = true) (h : LGs X B ms es u) (hn : (assignEach es X.env).length = n := by rfl) (hst : (assignEach es X.env).findIdx? (·.1) = none := by rfl) : LG X B ms (.Tuple es k pos) (gTup3 n u) :=
  (pg_tup hc h hn hst).imp fun v σ H Q ⟨Fz, tv, τ, G, d, Q3, hB, r, rv, ht, k⟩ => by
    cases d with
    | tup ds =>
      obtain ⟨a, vs, rfl, s, rs⟩ := rv.inv_tup
      exact ⟨a, vs, rfl, sqT_of s, rs.len.trans ht.1, Fz, tv, τ, G, ds, Q3, hB, r, rs, ht.2, k⟩
    | _ => exact ht.elim
theorem lg_lst {k n : Nat} (hc : X.calm = true) (h : LGs X B ms es u) (hn : (assignEach es X.env).length = n := by rfl) (hst : (assignEach es X.env).findIdx? (·.1) = none := by rfl) : LG X B ms (.Tuple es k pos) (gLst3 n u) :=
  (pg_lst hc h hn hst).imp fun v σ H Q ⟨Fz, tv, τ, G, d, Q3, hB, r, rv, ht, k⟩ => by
    have ht' : (match lstOf G d with
      | some ds => ds.length = n ∧ u ds τ G Q3
      | none => False) := ht
    cases e : lstOf G d with
    | none => rw [e] at ht'; exact ht'.elim
    | some ds =>
      rw [e] at ht'
      obtain ⟨a, vs, rfl, h1, rs⟩ := lst_at r.hr rv e
      exact ⟨a, vs, rfl, SqL.of h1, rs.len.trans ht'.1, Fz, tv, τ, G, ds, Q3, hB, r, rs, ht'.2, k⟩
theorem lg_star {k i : Nat} (hc : X.calm = true) (h : LGs X B ms es u) (hn : (assignEach es X.env).length = i + 1 := by rfl) (hst : (assignEach es X.env).findIdx? (·.1) = some i := by rfl) : LG X B ms (.Tuple es k pos) (gStar3 i u) :=
  (pg_star hc h hn hst).imp fun v σ H Q ⟨Fz, tv, τ, G, d, Q3, hB, r, rv, ht, k⟩ => by
    have ht' : (match itemsOf G d with
      | some ds => i ≤ ds.length ∧ u (ds.take i ++ [.lst (ds.drop i)]) τ G Q3
      | none => False) := ht
    cases e : itemsOf G d with
    | none => rw [e] at ht'; exact ht'.elim
    | some ds =>
      rw [e] at ht'
      obtain ⟨a, vs, rfl, hs, rs⟩ := items_at r.hr rv e
      refine ⟨a, vs, rfl, hs, by rw [rs.len]; exact ht'.1, fun p hp => ?_⟩
      have r2 := r.new (o := .lst (vs.drop i)) hp
      exact ⟨_, tv, τ, G, _, Q3, hB, r2, ((rs.take i).ext (r.ext1 hp)).append (.one (Rep.mk_lst Rel.stl ((rs.drop i).ext (r.ext1 hp)))), ht'.2, k⟩
end

/-! ### statements -/
def sNext : TS3 := fun D τ G => D.nx τ G
def sSeq (t u : TS3) : TS3 := fun D τ G => t { D with nx := u D } τ G
def sDrop (te : TE3) : TS3 := fun D τ G => te τ G fun _ G1 => D.nx τ G1
def sRet (te : TE3) : TS3 := fun D τ G => te τ G D.rt
def sRetN : TS3 := fun D _ G => D.rt .non G
def sIf (c : TT3) (t u : TS3) : TS3 := fun D τ G => c τ G fun b G1 => if b = true then t D τ G1 else u D τ G1
def sNever : TS3 := fun _ _ _ => False
def sAsg (te : TE3) (g : TG3) : TS3 := fun D τ G => te τ G fun d G1 => g d τ G1 D.nx
section
variable {X : Cx} {B : BT} {st : Stmt} {rest : List Stmt} {t u : TS3} {e : Expr} {te : TE3} {pos : Pos}
section
variable {K : PySem.W.Frag} {tv : BT} {D3 : Ends3} {D : Ends}
theorem SubE.nxp (s : SubE K tv D3 D) {N3 : T3 → Gp → Prop} {N : L2.St → Hp → Prop} (h : ∀ σ' τ' G' Fz' H', Rel K tv τ' G' Fz' σ' H' → N3 τ' G' → N σ' H') : SubE K tv { D3 with nx := N3 } { D with nx := N } := ⟨h, s.rt, s.bk, s.ct⟩
end
theorem lb_nil : LB X B [] sNext := pss_nil.imp fun D σ H ⟨Fz, tv, τ, G, D3, hB, r, ht, k⟩ => k.nx σ τ G Fz H r ht
theorem lb_cons (h1 : LS X B st t) (h2 : LB X B rest u) : LB X B (st :: rest) (sSeq t u) :=
  (pss_cons h1 h2).imp fun D σ H ⟨Fz, tv, τ, G, D3, hB, r, ht, k⟩ => ⟨Fz, tv, τ, G, _, hB, r, ht, k.nxp fun σ' τ' G' Fz' H' r' h' => ⟨Fz', tv, τ', G', D3, hB, r', h', k⟩⟩
theorem lb_one (h1 : LS X B st t) : LB X B [st] t := pss_one h1
theorem lb_never {sts : List Stmt} : LB X B sts sNever := pss_never.imp fun D σ H ⟨Fz, tv, τ, G, D3, hB, r, ht, k⟩ => ht.elim
theorem ls_never : LS X B st sNever := ps_never.imp fun D σ H ⟨Fz, tv, τ, G, D3, hB, r, ht, k⟩ => ht.elim
theorem ls_pass : LS X B (.Pass pos) sNext := ps_pass.imp fun D σ H ⟨Fz, tv, τ, G, D3, hB, r, ht, k⟩ => k.nx σ τ G Fz H r ht
def sBreak : TS3 := fun D τ G => D.bk τ G
def sCont : TS3 := fun D τ G => D.ct τ G
theorem ls_break : LS X B (.Break pos) sBreak := ps_break.imp fun D σ H ⟨Fz, tv, τ, G, D3, hB, r, ht, k⟩ => k.bk σ τ G Fz H r ht
theorem ls_continue : LS X B (.Continue pos) sCont := ps_continue.imp fun D σ H ⟨Fz, tv, τ, G, D3, hB, r, ht, k⟩ => k.ct σ τ G Fz H r ht
theorem ls_expr (he : LE X B e te) (hs : swapsWith e none pos.line X.env = pure false := by rfl) : LS X B (.Expr e pos) (sDrop te) :=
  (ps_expr he hs).imp fun D σ H ⟨Fz, tv, τ, G, D3, hB, r, ht, k⟩ => emb.mk hB r ht fun v H1 Fz1 d G1 r1 h1 => k.nx σ τ G1 Fz1 H1 r1.tl h1
theorem ls_ret (he : LE X B e te) : LS X B (.Return (some e) pos) (sRet te) :=
  (ps_ret he).imp fun D σ H ⟨Fz, tv, τ, G, D3, hB, r, ht, k⟩ => emb.mk hB r ht fun v H1 Fz1 d G1 r1 h1 => k.rt d G1 v H1 Fz1 σ τ r1 h1
theorem ls_retN : LS X B (.Return none pos) sRetN :=
  ps_retN.imp fun D σ H ⟨Fz, tv, τ, G, D3, hB, r, ht, k⟩ => k.rt .non G .non H Fz σ τ (r.push .non) ht
theorem ls_if {c : Expr} {a b : List Stmt} {tc : TT3} (hc : LT X B c tc) (ha : LB X B a t) (hb : LB X B b u) : LS X B (.If c a b pos) (sIf tc t u) :=
  (ps_if hc ha hb).imp fun D σ H ⟨Fz, tv, τ, G, D3, hB, r, ht, k⟩ => embT.mk hB r ht fun d H1 Fz1 G1 r1 h1 => by
    cases d with
    | true => exact ⟨Fz1, tv, τ, G1, D3, hB, r1, h1, k⟩
    | false => exact ⟨Fz1, tv, τ, G1, D3, hB, r1, h1, k⟩
theorem ls_set (i : Nat) {x : Str} {pos' : Pos} (hN : X.N.Nodup) (he : LE X B e te) (hi : X.N[i]? = some x := by rfl) (hx : Loc X.env.scope x := by first | exact Or.inl rfl | exact Or.inr rfl) (hs : swapsWith e (some (.Name x pos')) pos.line X.env = pure false := by rfl)
    (hf : X.fn x = true ∨ X.env.scope.names.lookup x = some .local := by first | exact .inl rfl | exact .inr rfl | assumption) : LS X B (.Assign [.Name x pos'] e pos) (sAsg te (gName3 i)) :=
  (ps_set hN hi hx he hs hf).imp fun D σ H ⟨Fz, tv, τ, G, D3, hB, r, ht, k⟩ => emb.mk hB r ht fun v H1 Fz1 d G1 r1 h1 => k.nx _ _ G1 Fz1 H1 (r1.tl.set r1.h1 i) h1
theorem ls_asg {tg : Expr} {ms : List Nat} {g : TG3} (he : LE X B e te) (hg : LG X B ms tg g) (hs : swapsWithSole [tg] e pos.line X.env = pure false := by rfl) (hw : swappedStores [tg] e X.env = pure none := by rfl)
    (h1 : (assignEach [tg] X.env).map (·.2) = [assign tg X.env] := by rfl) : LS X B (.Assign [tg] e pos) (sAsg te g) :=
  (ps_asg he hg hs hw h1).imp fun D σ H ⟨Fz, tv, τ, G, D3, hB, r, ht, k⟩ => emb.mk hB r ht fun v H1 Fz1 d G1 r1 h1 =>
    ⟨Fz1, tv, τ, G1, d, _, hB, r1.tl, r1.h1, h1, fun σ' τ' G' Fz' H' _ r' q => k.nx σ' τ' G' Fz' H' r' q⟩
/-- a, b = e1, e2 of two plain names -/
def sPar (i j : Nat) (ta : TA3) : TS3 := fun D τ G => ta τ G fun ds G1 => match ds with
  | [d, e] => D.nx ((τ.set i (some d)).set j (some e)) G1
  | _ => False
theorem ls_par (i j : Nat) {x y : Str} {a b : Expr} {ta : TA3} {px py pt : Pos} {kt k2 pt2} (hc : X.calm = true) (hN : X.N.Nodup) (hi : X.N[i]? = some x) (hj : X.N[j]? = some y) (hij : i ≠ j)
    (h : LA X B [a, b] ta) (P : ∀ {tA : TA}, PA X [a, b] tA → PS X (.Assign [.Tuple [.Name x px, .Name y py] kt pt] (.Tuple [a, b] k2 pt2) pos) (tPar i j tA)) : LS X B (.Assign [.Tuple [.Name x px, .Name y py] kt pt] (.Tuple [a, b] k2 pt2) pos) (sPar i j ta) :=
  (P h).imp fun D σ H ⟨Fz, tv, τ, G, D3, hB, r, ht, k⟩ => embA.mk hB r ht fun vs H1 Fz1 ds G1 rs r1 h1 => by
    match ds, h1 with
    | [d, e], h1 =>
      obtain ⟨v, u, rfl, rv, ru⟩ := rs.two_inv
      exact ⟨v, u, rfl, k.nx _ _ G1 Fz1 H1 ((r1.set rv i).set ru j) h1⟩
    | [], h1 => exact h1.elim
    | [_], h1 => exact h1.elim
    | _ :: _ :: _ :: _, h1 => exact h1.elim
/-- x op= e -/
def sAug (i : Nat) (te : TE3) (r : R3) : TS3 := fun D τ G => match τ[i]? with
  | some (some x) => te τ G fun y G1 => r x y G1 fun z G2 => D.nx (τ.set i (some z)) G2
  | _ => False
theorem ls_aug (i : Nat) {x : Str} {op : Operator} {r0 : R2} {r3 : R3} {pos' : Pos} (hN : X.N.Nodup) (he : LE X B e te) (ho : OpR X (inplaceOp op) r0) (hs : Sim2 X.K r0 r3) (hi : X.N[i]? = some x := by rfl) (hx : Loc X.env.scope x := by first | exact Or.inl rfl | exact Or.inr rfl)
    (hf : X.fn x = true ∨ X.env.scope.names.lookup x = some .local := by first | exact .inl rfl | exact .inr rfl | assumption) : LS X B (.AugAssign (.Name x pos') op e pos) (sAug i te r3) :=
  (ps_aug (ti := r0) hN hi hx he ho hf).imp fun D σ H ⟨Fz, tv, τ, G, D3, hB, r, ht, k⟩ => by
    unfold sAug at ht
    split at ht
    · rename_i d e
      obtain ⟨v, hv, rv⟩ := r.slot i d e
      refine ⟨v, hv, emb.mk (subB (p := (v, d)) hB) (r.push rv) ht fun u H1 Fz1 y G1 r1 h1 => hs (tv := tv) r1 h1 fun w H2 ⟨Fz2, z, G2, r2, h2⟩ => ?_⟩
      exact k.nx _ _ G2 Fz2 H2 (r2.tl.set r2.h1 i) h2
    · exact ht.elim
/-- a thing stands still from now on: of its slot -/
def sFrz (i : Nat) (t : TS3) : TS3 := fun D τ G => match τ[i]? with
  | some (some (.ref p)) => (match G p with
    | some (.lst ds) => t D (τ.set i (some (.lst ds))) (gdel G p)
    | some (.dic ds) => t D (τ.set i (some (.dic ds))) (gdel G p)
    | some (.ins C ds) => t D (τ.set i (some (.ins C ds))) (gdel G p)
    | _ => False)
  | _ => False
theorem frz_rep {K : PySem.W.Frag} {Fz : Addr → Prop} {H : Hp} {G : Gp} {p : Addr} (h : HRel K Fz H G) :
    (∀ ds, G p = some (.lst ds) → Rep K (fzup Fz p) H (.ref p) (.lst ds)) ∧ (∀ ds, G p = some (.dic ds) → Rep K (fzup Fz p) H (.ref p) (.dic ds)) ∧ ∀ C ds, G p = some (.ins C ds) → Rep K (fzup Fz p) H (.ref p) (.ins C ds) := by
  refine ⟨fun ds e => ?_, fun ds e => ?_, fun C ds e => ?_⟩
  · obtain ⟨_, vs, h1, h2⟩ := h.go _ _ e
    exact Rep.mk_lst ⟨.inl rfl, h1⟩ (h2.ext Ext.frz)
  · obtain ⟨_, vs, h1, h2⟩ := h.go _ _ e
    exact Rep.mk_dic ⟨.inl rfl, h1⟩ (h2.ext Ext.frz)
  · obtain ⟨_, dx, vs, h1, h2⟩ := h.go _ _ e
    exact Rep.mk_ins ⟨.inl rfl, h1⟩ (h2.ext Ext.frz)
theorem set_same {σ : L2.St} {i : Nat} {x : Option V} (h : σ[i]? = some x) : σ.set i x = σ := by
  refine List.ext_getElem? fun j => ?_
  rw [List.getElem?_set]
  split
  · rename_i e
    subst e
    split
    · exact h.symm
    · rename_i hn
      rw [List.getElem?_eq_none (by omega)] at h; cases h
  · rfl
theorem lb_frz (i : Nat) {sts : List Stmt} (h : LB X B sts t) : LB X B sts (sFrz i t) :=
  h.imp fun D σ H ⟨Fz, tv, τ, G, D3, hB, r, ht, k⟩ => by
    unfold sFrz at ht
    split at ht
    · rename_i p e
      obtain ⟨v, hv, rv⟩ := r.slot i _ e
      obtain rfl := rv.inv_ref
      obtain ⟨f1, f2, f3⟩ := frz_rep (p := p) r.hr
      have fin : ∀ (u : GO) (d : L3.D), G p = some u → Rep X.K (fzup Fz p) H (.ref p) d → Rel X.K tv (τ.set i (some d)) (gdel G p) (fzup Fz p) σ H := fun u d hu rd => by
        have r2 := (r.ext Ext.frz (r.hr.frz hu)).set rd i
        rwa [set_same hv] at r2
      split at ht
      · rename_i ds q; exact ⟨_, tv, _, _, D3, hB, fin _ _ q (f1 ds q), ht, k⟩
      · rename_i ds q; exact ⟨_, tv, _, _, D3, hB, fin _ _ q (f2 ds q), ht, k⟩
      · rename_i C ds q; exact ⟨_, tv, _, _, D3, hB, fin _ _ q (f3 C ds q), ht, k⟩
      · exact ht.elim
    · exact ht.elim
/-- a value's thing stands still from now on -/
def lFrz (te : TE3) : TE3 := fun τ G Q => te τ G fun d G1 => match d with
  | .ref p => (match G1 p with
    | some (.lst ds) => Q (.lst ds) (gdel G1 p)
    | some (.dic ds) => Q (.dic ds) (gdel G1 p)
    | some (.ins C ds) => Q (.ins C ds) (gdel G1 p)
    | _ => False)
  | d => Q d G1
theorem le_frz (h : LE X B e te) : LE X B e (lFrz te) :=
  h.imp fun σ H Q ⟨Fz, tv, τ, G, Q3, hB, r, ht, k⟩ => emb.mk hB r ht fun v H1 Fz1 d G1 r1 h1 => by
    have other : Q3 d G1 → Q v H1 := fun q => k v H1 ⟨Fz1, d, G1, r1, q⟩
    cases d with
    | ref p =>
      obtain rfl := r1.h1.inv_ref
      obtain ⟨f1, f2, f3⟩ := frz_rep (p := p) r1.hr
      have h2 : (match G1 p with
        | some (.lst ds) => Q3 (.lst ds) (gdel G1 p)
        | some (.dic ds) => Q3 (.dic ds) (gdel G1 p)
        | some (.ins C ds) => Q3 (.ins C ds) (gdel G1 p)
        | _ => False) := h1
      split at h2
      · rename_i ds q; exact k _ H1 (.mk (r1.tl.ext Ext.frz (r1.hr.frz q)) (f1 ds q) h2)
      · rename_i ds q; exact k _ H1 (.mk (r1.tl.ext Ext.frz (r1.hr.frz q)) (f2 ds q) h2)
      · rename_i C ds q; exact k _ H1 (.mk (r1.tl.ext Ext.frz (r1.hr.frz q)) (f3 C ds q) h2)
      · exact h2.elim
    | _ => exact other h1
end

/-! ### promises and calls -/
abbrev Sp3 := List D → Gp → K3 → Prop
def low (K : PySem.W.Frag) (sp : Sp3) : Sp := fun vs H Q _ => ∃ (Fz : Addr → Prop) (tv : BT) (ds : List D) (G : Gp) (Q3 : K3), HRel K Fz H G ∧ (∀ p ∈ tv, Rep K Fz H p.1 p.2) ∧ Reps K Fz H vs ds ∧ sp ds G Q3 ∧
  ∀ v H' Fz' d G', HRel K Fz' H' G' → (∀ p ∈ tv, Rep K Fz' H' p.1 p.2) → Rep K Fz' H' v d → Q3 d G' → Q v H'
/-- the slots by data -/
def slotsL (σ : L2.St) (τ : T3) : BT := (σ.zip τ).filterMap fun p => match p with
  | (some v, some d) => some (v, d)
  | _ => none
theorem slots_in {σ : L2.St} {τ : T3} {i : Nat} {v : V} {d : D} (h1 : σ[i]? = some (some v)) (h2 : τ[i]? = some (some d)) : (v, d) ∈ slotsL σ τ := by
  unfold slotsL
  refine List.mem_filterMap.mpr ⟨(some v, some d), ?_, rfl⟩
  obtain ⟨a1, b1⟩ := List.getElem?_eq_some_iff.mp h1
  obtain ⟨a2, b2⟩ := List.getElem?_eq_some_iff.mp h2
  refine List.mem_iff_getElem.mpr ⟨i, by rw [List.length_zip]; omega, ?_⟩
  rw [List.getElem_zip, b1, b2]
section
variable {K : PySem.W.Frag} {tv : BT} {τ : T3} {G G' : Gp} {Fz Fz' : Addr → Prop} {σ : L2.St} {H H' : Hp}
theorem Rel.slots_rep (r : Rel K tv τ G Fz σ H) : ∀ p ∈ slotsL σ τ, Rep K Fz H p.1 p.2 := fun p hp => by
  unfold slotsL at hp
  obtain ⟨⟨a, b⟩, hm, e⟩ := List.mem_filterMap.mp hp
  cases a with
  | none => cases e
  | some v => cases b with
    | none => cases e
    | some d =>
      have e' : (v, d) = p := Option.some.inj e
      subst e'
      obtain ⟨i, hi, e2⟩ := List.mem_iff_getElem.mp hm
      rw [List.getElem_zip] at e2
      have h1 : i < σ.length := by rw [List.length_zip] at hi; omega
      have h2 : i < τ.length := by rw [List.length_zip] at hi; omega
      have ea : σ[i] = some v := congrArg Prod.fst e2
      have eb : τ[i] = some d := congrArg Prod.snd e2
      obtain ⟨v', hv', rv⟩ := r.slot i d (by simp [h2, eb])
      have e3 : σ[i]? = some (some v) := by simp [h1, ea]
      rw [e3] at hv'
      cases hv'
      exact rv
theorem Rel.again (r : Rel K tv τ G Fz σ H) (h : HRel K Fz' H' G') (hs : ∀ p ∈ slotsL σ τ, Rep K Fz' H' p.1 p.2) (ht : ∀ p ∈ tv, Rep K Fz' H' p.1 p.2) : Rel K tv τ G' Fz' σ H' :=
  ⟨r.len, fun i d e => let ⟨v, hv, _⟩ := r.slot i d e; ⟨v, hv, hs _ (slots_in hv e)⟩, ht, h⟩
theorem low_of {sp : Sp3} {vs : List V} {ds : List D} {Q : VK} {E : XK} {Q3 : K3} (r : Rel K tv τ G Fz σ H) (rs : Reps K Fz H vs ds) (h : sp ds G Q3) (k : ∀ v H', PostE K tv τ σ Q3 v H' → Q v H') : low K sp vs H Q E :=
  ⟨Fz, slotsL σ τ ++ tv, ds, G, Q3, r.hr, fun p hp => (List.mem_append.mp hp).elim (r.slots_rep p) (r.tmp p), rs, h, fun v H' Fz' d G' hr tm rv q =>
    k v H' (.mk (r.again hr (fun p hp => tm p (List.mem_append_left _ hp)) fun p hp => tm p (List.mem_append_right _ hp)) rv q)⟩
end
/-- a def that may be called by its name: sp its promise by data, ddv the defaults that fill up -/
structure Cal (P : Program) (w : World) (K : PySem.W.Frag) (mg : Str → Option Value) (base : Heap) (x : Str) (k : Nat) (sp : Sp3) (ddv : List D) : Prop where
  ex : ∃ (f : Addr) (fd : FuncData) (ps : List Str) (dvs : List V) (ds : List Value), mg x = some (.ref f) ∧ PySem.W.keepIn K (.ref f) = true ∧ FnOk P w K mg base CX0 k f fd ps (low K sp) ∧ Binds K fd ps ds ∧ Vals dvs ds ∧ ∀ Fz H, Reps K Fz H dvs ddv
def lCall (sp : Sp3) (ddv : List D) (t : TA3) : TE3 := fun τ G Q => t τ G fun ds G1 => sp (ds ++ ddv) G1 Q
section
variable {X : Cx} {B : BT} {x : Str} {k : Nat} {sp : Sp3} {ddv : List D} {p pos : Pos} {e : Expr} {es : List Expr} {t : TA3}
theorem le_call (C : Cal X.prog X.w X.K X.mg X.base x k sp ddv) (hr : Room k X.A) (ha : LA X B (e :: es) t) (hg : Gl X x := by rfl) (hdb : (x == ("__debug__" : Str)) = false := by decide) (he : starEach (e :: es) X.env = (false, eval e X.env) :: starEach es X.env := by rfl)
    (hpl : (backTo pos (starEach es X.env)).any (·.1) = false := by rfl) : LE X B (.Call (.Name x p) (e :: es) [] pos) (lCall sp ddv t) := by
  obtain ⟨f, fd, ps, dvs, ds, hm, hk, F, hb, hd, hv⟩ := C.ex
  exact (pe_call F hr hg hm hk hb hd pass0 ha hdb he hpl).imp fun σ H Q ⟨Fz, tv, τ, G, Q3, hB, r, ht, k⟩ => embA.mk hB r ht fun vs H1 Fz1 ds G1 rs r1 h1 => low_of r1 (rs.append (hv _ _)) h1 k
theorem le_call0 (C : Cal X.prog X.w X.K X.mg X.base x k sp ddv) (hr : Room k X.A) (hg : Gl X x := by rfl) (hdb : (x == ("__debug__" : Str)) = false := by decide) : LE X B (.Call (.Name x p) [] [] pos) (lCall sp ddv lNil) := by
  obtain ⟨f, fd, ps, dvs, ds, hm, hk, F, hb, hd, hv⟩ := C.ex
  exact (pe_call0 F hr hg hm hk hb hd pass0 hdb).imp fun σ H Q ⟨Fz, tv, τ, G, Q3, hB, r, ht, k⟩ => low_of (E := E0) r (Reps.append .nil (hv _ _)) ht k
end
/-- a def's body by data -/
def start3 (N : List Str) (ds : List D) : T3 := ds.map some ++ List.replicate (N.length - ds.length) none
theorem start_rel {K : PySem.W.Frag} {Fz : Addr → Prop} {H : Hp} {G : Gp} {tv : BT} {vs : List V} {ds : List D} (N : List Str) (h : HRel K Fz H G) (ht : ∀ p ∈ tv, Rep K Fz H p.1 p.2) (r : Reps K Fz H vs ds) : Rel K tv (start3 N ds) G Fz (L2.start N vs) H := by
  refine ⟨by unfold L2.start start3; simp [r.len], fun i d e => ?_, ht, h⟩
  unfold start3 at e
  unfold L2.start
  by_cases hi : i < ds.length
  · rw [List.getElem?_append_left (by rw [List.length_map]; exact hi), List.getElem?_map] at e
    rw [List.getElem?_append_left (by rw [List.length_map, r.len]; exact hi), List.getElem?_map]
    cases e2 : ds[i]? with
    | none => rw [e2] at e; cases e
    | some d' =>
      rw [e2] at e
      cases e
      obtain ⟨v, hv, rv⟩ := r.get e2
      exact ⟨v, by rw [hv]; rfl, rv⟩
  · rw [List.getElem?_append_right (by rw [List.length_map]; omega), List.getElem?_replicate] at e
    split at e <;> cases e
theorem fnD_ok {P : Program} {w : World} {K : PySem.W.Frag} {mg : Str → Option Value} {base : Heap} {x qual : Str} {params : Arguments} {body : List Stmt} {scope : Scope} {dvs : List V} {kws : List (Str × V)} {f : Addr} {fd : FuncData} {N ps : List Str} {k : Nat} {sp : Sp3}
    (F : FunD K x qual params body scope dvs kws f fd) (S : FnScope N ps scope) (len : ∀ ds G Q, sp ds G Q → ds.length = ps.length)
    (hbody : ∀ (cdv : Value) (A : Around) (outer : List Env) (s : Shared) (H : Hp) (E : XK), Room k (A.deeper (envOfC qual scope s.heap.objs.size f cdv)) →
      ∃ t, LB (cxOf CX0 P w K mg base N qual scope f cdv A outer s H E).nox [] body t ∧ ∀ ds G Q, sp ds G Q → t { nx := fun _ G' => Q .non G', rt := Q } (start3 N ds) G) : FnOk P w K mg base CX0 (k + 1) f fd ps (low K sp) := by
  refine F.ok S (fun vs H Q E h => ?_) fun cdv A outer s H vs Q E hr h => ?_
  · obtain ⟨Fz, tv, ds, G, Q3, _, _, rs, h, _⟩ := h
    rw [rs.len]
    exact len ds G Q3 h
  · obtain ⟨t, ht, hq⟩ := hbody cdv A outer s H E hr
    obtain ⟨Fz, tv, ds, G, Q3, h1, h2, rs, h, kk⟩ := h
    refine ⟨_, ht.nox, Fz, tv, start3 N ds, G, { nx := fun _ G' => Q3 .non G', rt := Q3 }, fun p hp => absurd hp (by simp), start_rel N h1 h2 rs, hq ds G Q3 h, ?_⟩
    exact ⟨fun σ' τ' G' Fz' H' r q => kk .non H' Fz' .non G' r.hr (fun p hp => r.tmp p hp) .non q, fun d G' v H' Fz' σ' τ' r q => kk v H' Fz' d G' r.hr (fun p hp => r.tmp p (List.mem_cons_of_mem _ hp)) r.h1 q,
      fun _ _ _ _ _ _ q => q.elim, fun _ _ _ _ _ _ q => q.elim⟩
end L3
end

section
set_option Elab.async false
set_option linter.all false
set_option maxRecDepth 100000
set_option maxHeartbeats 4000000
/-! L3f: what is walked; for, while, comprehensions. -/
namespace L3
open PySem PySem.Spec PyProof.Rows L2

/-! ### what is walked: a list of data -/
/-- the walk J yields the data ds, in turn, while tv stands -/
structure Sims (K : PySem.W.Frag) (tv : BT) (J : It) (ds : List D) : Prop where
  go : ∀ {i τ G Fz σ H}, Rel K tv τ G Fz σ H → i < ds.length → J.go i H
  stop : ∀ {i τ G Fz σ H}, Rel K tv τ G Fz σ H → ds.length ≤ i → J.stop i H
  yld : ∀ {i τ G Fz σ H x H' d}, Rel K tv τ G Fz σ H → ds[i]? = some d → J.yld i H x H' → ∃ Fz', Rel K ((x, d) :: tv) τ G Fz' σ H'
theorem Sims.mono {K : PySem.W.Frag} {tv tv' : BT} {J : It} {ds : List D} (S : Sims K tv J ds) (h : ∀ p ∈ tv, p ∈ tv') : Sims K tv' J ds where
  go := fun r hi => S.go (r.sub h) hi
  stop := fun r hi => S.stop (r.sub h) hi
  yld := fun {i τ G Fz σ H x H' d} r hd y => by
    have r0 : Rel K tv (τ ++ []) G Fz (σ ++ []) H := by rw [List.append_nil, List.append_nil]; exact r.sub h
    -- the temporaries of tv' are carried as slots
    have r1 : Rel K tv (τ ++ tv'.map fun p => some p.2) G Fz (σ ++ tv'.map fun p => some p.1) H := by
      refine ⟨by simp [r.len], fun j e he => ?_, (r.sub h).tmp, r.hr⟩
      by_cases hj : j < τ.length
      · rw [List.getElem?_append_left hj] at he
        obtain ⟨v, hv, rv⟩ := r.slot j e he
        exact ⟨v, by rw [List.getElem?_append_left (by rw [r.len]; exact hj)]; exact hv, rv⟩
      · rw [List.getElem?_append_right (by omega), List.getElem?_map] at he
        cases e2 : tv'[j - τ.length]? with
        | none => rw [e2] at he; cases he
        | some p =>
          rw [e2] at he
          cases he
          exact ⟨p.1, by rw [List.getElem?_append_right (by rw [r.len]; omega), List.getElem?_map, r.len, e2]; rfl, r.tmp _ (List.mem_of_getElem? e2)⟩
    obtain ⟨Fz', q⟩ := S.yld r1 hd y
    refine ⟨Fz', ⟨r.len, fun j e he => ?_, fun p hp => ?_, q.hr⟩⟩
    · have hj : j < τ.length := (List.getElem?_eq_some_iff.mp he).1
      obtain ⟨v, hv, rv⟩ := q.slot j e (by rw [List.getElem?_append_left hj]; exact he)
      rw [List.getElem?_append_left (by rw [r.len]; exact hj)] at hv
      exact ⟨v, hv, rv⟩
    · rcases List.mem_cons.mp hp with e | hp
      · exact q.tmp _ (by rw [e]; exact List.mem_cons_self)
      · obtain ⟨j, hj⟩ := List.mem_iff_getElem?.mp hp
        obtain ⟨v, hv, rv⟩ := q.slot (τ.length + j) p.2 (by rw [List.getElem?_append_right (by omega), List.getElem?_map, Nat.add_sub_cancel_left, hj]; rfl)
        rw [List.getElem?_append_right (by rw [r.len]; omega), List.getElem?_map, r.len, Nat.add_sub_cancel_left, hj] at hv
        cases hv
        exact rv
abbrev TI3 := T3 → Gp → (List D → Gp → Prop) → Prop
def embI (K : PySem.W.Frag) (B : BT) (t : TI3) : TI := fun σ H R => ∃ Fz tv τ G R3, (∀ p ∈ B, p ∈ tv) ∧ Rel K tv τ G Fz σ H ∧ t τ G R3 ∧
  ∀ J H' Fz' tv' ds G', (∀ p ∈ tv, p ∈ tv') → Rel K tv' τ G' Fz' σ H' → Sims K tv' J ds → R3 ds G' → R J H'
abbrev LI (X : Cx) (B : BT) (tg e : Expr) (t : TI3) : Prop := PI X tg e (embI X.K B t)
theorem _root_.L2.PI.imp {X : Cx} {tg e : Expr} {t t' : TI} (h : PI X tg e t) (i : ∀ σ H R, t' σ H R → t σ H R) : PI X tg e t' := ⟨fun pins s σ H R I q => h.run pins s σ H R I (i σ H R q)⟩
section
variable {K : PySem.W.Frag}
theorem sims_list {a : Addr} {ds : List D} {tv : BT} (hm : (V.ref a, D.lst ds) ∈ tv) : Sims K tv (Itl K a) ds where
  go := fun {i τ G Fz σ H} r hi => by
    obtain ⟨b, vs, e, s, q⟩ := (r.tmp _ hm).inv_lst
    cases e
    obtain ⟨v, hv, _⟩ := q.get (i := i) (d := ds[i]) (by simp [hi])
    exact ⟨vs, v, SqL.of s.2, hv⟩
  stop := fun {i τ G Fz σ H} r hi => by
    obtain ⟨b, vs, e, s, q⟩ := (r.tmp _ hm).inv_lst
    cases e
    exact ⟨vs, SqL.of s.2, by rw [q.len]; exact hi⟩
  yld := fun {i τ G Fz σ H x H' d} r hd y => by
    obtain ⟨rfl, y⟩ := y
    obtain ⟨b, vs, e, s, q⟩ := (r.tmp _ hm).inv_lst
    cases e
    exact ⟨Fz, r.push (q.at_ i _ _ (y vs (SqL.of s.2)) hd)⟩
theorem sims_tup {a : Addr} {ds : List D} {tv : BT} (hm : (V.ref a, D.tup ds) ∈ tv) : Sims K tv (Itt K a) ds where
  go := fun {i τ G Fz σ H} r hi => by
    obtain ⟨b, vs, e, s, q⟩ := (r.tmp _ hm).inv_tup
    cases e
    obtain ⟨v, hv, _⟩ := q.get (i := i) (d := ds[i]) (by simp [hi])
    exact ⟨vs, v, sqT_of s, hv⟩
  stop := fun {i τ G Fz σ H} r hi => by
    obtain ⟨b, vs, e, s, q⟩ := (r.tmp _ hm).inv_tup
    cases e
    exact ⟨vs, sqT_of s, by rw [q.len]; exact hi⟩
  yld := fun {i τ G Fz σ H x H' d} r hd y => by
    obtain ⟨rfl, y⟩ := y
    obtain ⟨b, vs, e, s, q⟩ := (r.tmp _ hm).inv_tup
    cases e
    exact ⟨Fz, r.push (q.at_ i _ _ (y vs (sqT_of s)) hd)⟩
def rgL (lo : Int) (n : Nat) : List D := (List.range n).map fun i => D.int (lo + (i : Nat))
theorem rgL_get {lo : Int} {n i : Nat} (h : i < n) : (rgL lo n)[i]? = some (.int (lo + (i : Nat))) := by
  unfold rgL
  rw [List.getElem?_map, List.getElem?_range h]
  rfl
theorem rgL_len (lo : Int) (n : Nat) : (rgL lo n).length = n := by unfold rgL; simp
theorem sims_range {lo : Int} {n : Nat} {tv : BT} : Sims K tv (Itr lo n) (rgL lo n) where
  go := fun r hi => by rw [rgL_len] at hi; exact hi
  stop := fun r hi => by rw [rgL_len] at hi; exact hi
  yld := fun {i τ G Fz σ H x H' d} r hd y => by
    obtain ⟨rfl, rfl⟩ := y
    have hi : i < n := by
      have := (List.getElem?_eq_some_iff.mp hd).1
      rwa [rgL_len] at this
    rw [rgL_get hi] at hd
    cases hd
    exact ⟨Fz, r.push (.int _)⟩
def sgL (z : Str) : List D := z.cps.toList.map fun c => D.str ⟨#[c]⟩
theorem sims_str {z : Str} {tv : BT} : Sims K tv (Its z) (sgL z) where
  go := fun {i τ G Fz σ H} r hi => by
    have h2 : i < z.cps.size := by unfold sgL at hi; simpa using hi
    exact h2
  stop := fun {i τ G Fz σ H} r hi => by
    have h2 : z.cps.size ≤ i := by unfold sgL at hi; simpa using hi
    exact h2
  yld := fun {i τ G Fz σ H x H' d} r hd y => by
    obtain ⟨rfl, c, hc, rfl⟩ := y
    unfold sgL at hd
    rw [List.getElem?_map] at hd
    rw [Array.getElem?_toList, hc] at hd
    cases hd
    exact ⟨Fz, r.push (.str _)⟩
def enL (ds : List D) : List D := ds.zipIdx.map fun p => D.tup [.int (p.2 : Nat), p.1]
theorem enL_get {ds : List D} {i : Nat} {d : D} (h : ds[i]? = some d) : (enL ds)[i]? = some (.tup [.int (i : Nat), d]) := by
  unfold enL
  rw [List.getElem?_map, List.getElem?_zipIdx, h]
  simp
theorem enL_len (ds : List D) : (enL ds).length = ds.length := by unfold enL; simp
theorem sims_enum {a : Addr} {ds : List D} {tv : BT} (hm : (V.ref a, D.lst ds) ∈ tv) : Sims K tv (Ite K a) (enL ds) where
  go := fun {i τ G Fz σ H} r hi => by
    rw [enL_len] at hi
    obtain ⟨b, vs, e, s, q⟩ := (r.tmp _ hm).inv_lst
    cases e
    obtain ⟨v, hv, _⟩ := q.get (i := i) (d := ds[i]) (by simp [hi])
    exact ⟨vs, v, SqL.of s.2, hv⟩
  stop := fun {i τ G Fz σ H} r hi => by
    rw [enL_len] at hi
    obtain ⟨b, vs, e, s, q⟩ := (r.tmp _ hm).inv_lst
    cases e
    exact ⟨vs, SqL.of s.2, by rw [q.len]; exact hi⟩
  yld := fun {i τ G Fz σ H x H' d} r hd y => by
    obtain ⟨T, x, rfl, hT, rfl, y⟩ := y
    obtain ⟨b, vs, e, s, q⟩ := (r.tmp _ hm).inv_lst
    cases e
    have hi : i < ds.length := by have := (List.getElem?_eq_some_iff.mp hd).1; rwa [enL_len] at this
    have hg : ds[i]? = some ds[i] := by simp [hi]
    rw [enL_get hg] at hd
    cases hd
    have rx := q.at_ i _ _ (y vs (SqL.of s.2)) hg
    exact ⟨_, (r.new hT).push (Rep.mk_tup Rel.stl (.cons (.int _) (.one (rx.ext (r.ext1 hT)))))⟩
def zpL (ds es : List D) : List D := (ds.zip es).map fun p => D.tup [p.1, p.2]
theorem zpL_len (ds es : List D) : (zpL ds es).length = min ds.length es.length := by unfold zpL; simp
theorem zpL_get {ds es : List D} {i : Nat} {d e : D} (h : ds[i]? = some d) (h' : es[i]? = some e) : (zpL ds es)[i]? = some (.tup [d, e]) := by
  unfold zpL
  rw [List.getElem?_map, (List.getElem?_zip_eq_some (z := (d, e))).mpr ⟨h, h'⟩]
  rfl
theorem sims_zip {a b : Addr} {ds es : List D} {tv : BT} (hm : (V.ref a, D.lst ds) ∈ tv) (hm' : (V.ref b, D.lst es) ∈ tv) : Sims K tv (Itz K a b) (zpL ds es) where
  go := fun {i τ G Fz σ H} r hi => by
    rw [zpL_len] at hi
    obtain ⟨_, vs, e, s, q⟩ := (r.tmp _ hm).inv_lst
    cases e
    obtain ⟨_, vs', e, s', q'⟩ := (r.tmp _ hm').inv_lst
    cases e
    obtain ⟨v, hv, _⟩ := q.get (i := i) (d := ds[i]'(by omega)) (by simp)
    obtain ⟨v', hv', _⟩ := q'.get (i := i) (d := es[i]'(by omega)) (by simp)
    exact ⟨vs, vs', v, v', SqL.of s.2, SqL.of s'.2, hv, hv'⟩
  stop := fun {i τ G Fz σ H} r hi => by
    rw [zpL_len] at hi
    obtain ⟨_, vs, e, s, q⟩ := (r.tmp _ hm).inv_lst
    cases e
    obtain ⟨_, vs', e, s', q'⟩ := (r.tmp _ hm').inv_lst
    cases e
    exact ⟨vs, vs', SqL.of s.2, SqL.of s'.2, by rw [q.len, q'.len]; omega⟩
  yld := fun {i τ G Fz σ H x H' d} r hd y => by
    obtain ⟨T, x, x', rfl, hT, rfl, y, y'⟩ := y
    obtain ⟨_, vs, e, s, q⟩ := (r.tmp _ hm).inv_lst
    cases e
    obtain ⟨_, vs', e, s', q'⟩ := (r.tmp _ hm').inv_lst
    cases e
    have hi : i < min ds.length es.length := by have := (List.getElem?_eq_some_iff.mp hd).1; rwa [zpL_len] at this
    have hg : ds[i]? = some (ds[i]'(by omega)) := by simp
    have hg' : es[i]? = some (es[i]'(by omega)) := by simp
    rw [zpL_get hg hg'] at hd
    cases hd
    have rx := q.at_ i _ _ (y vs (SqL.of s.2)) hg
    have rx' := q'.at_ i _ _ (y' vs' (SqL.of s'.2)) hg'
    exact ⟨_, (r.new hT).push (Rep.mk_tup Rel.stl (.cons (rx.ext (r.ext1 hT)) (.one (rx'.ext (r.ext1 hT)))))⟩
end
section
variable {X : Cx} {B : BT} {tg e e2 : Expr} {te : TE3} {ta : TA3} {p pos : Pos}
/-- over a list that stands still, a tuple -/
def iLst3 (te : TE3) : TI3 := fun τ G R => te τ G fun d G1 => match d with
  | .lst ds => R ds G1
  | _ => False
def iTup3 (te : TE3) : TI3 := fun τ G R => te τ G fun d G1 => match d with
  | .tup ds => R ds G1
  | _ => False
def iStr3 (te : TE3) : TI3 := fun τ G R => te τ G fun d G1 => match d with
  | .str z => R (sgL z) G1
  | _ => False
theorem li_lst (h : LE X B e te) : LI X B tg e (iLst3 te) := (pi_list h).imp fun σ H R ⟨Fz, tv, τ, G, R3, hB, r, ht, k⟩ => emb.mk hB r ht fun v H1 Fz1 d G1 r1 h1 => by
  cases d with
  | lst ds =>
    obtain ⟨a, vs, rfl, s, q⟩ := r1.h1.inv_lst
    exact ⟨a, rfl, ⟨vs, SqL.of s.2⟩, k _ H1 Fz1 _ ds G1 (fun p hp => List.mem_cons_of_mem _ hp) r1 (sims_list List.mem_cons_self) h1⟩
  | _ => exact h1.elim
theorem li_tup (h : LE X B e te) : LI X B tg e (iTup3 te) := (pi_tup h).imp fun σ H R ⟨Fz, tv, τ, G, R3, hB, r, ht, k⟩ => emb.mk hB r ht fun v H1 Fz1 d G1 r1 h1 => by
  cases d with
  | tup ds =>
    obtain ⟨a, vs, rfl, s, q⟩ := r1.h1.inv_tup
    exact ⟨a, rfl, ⟨vs, sqT_of s⟩, k _ H1 Fz1 _ ds G1 (fun p hp => List.mem_cons_of_mem _ hp) r1 (sims_tup List.mem_cons_self) h1⟩
  | _ => exact h1.elim
theorem li_str (h : LE X B e te) : LI X B tg e (iStr3 te) := (pi_str h).imp fun σ H R ⟨Fz, tv, τ, G, R3, hB, r, ht, k⟩ => emb.mk hB r ht fun v H1 Fz1 d G1 r1 h1 => by
  cases d with
  | str z => exact ⟨z, r1.h1.inv_str, k _ H1 Fz1 _ _ G1 (fun p hp => List.mem_cons_of_mem _ hp) r1 sims_str h1⟩
  | _ => exact h1.elim
def iRg1 (te : TE3) : TI3 := fun τ G R => te τ G fun d G1 => match d with
  | .int n => (-(2 ^ 62) ≤ n ∧ n < 2 ^ 62) ∧ R (rgL 0 n.toNat) G1
  | _ => False
theorem li_range1 (hg : Gl X "range") (hm : X.mg "range" = none) (h : LE X B e te) (hs : starEach [e] X.env = [(false, eval e X.env)] := by rfl) (hs' : starEach [e] X.env = (false, eval e X.env) :: starEach [] X.env := by rfl) : LI X B tg (.Call (.Name "range" p) [e] [] pos) (iRg1 te) :=
  (pi_range1 hg hm (pa_cons h pa_nil hs') hs).imp fun σ H R ⟨Fz, tv, τ, G, R3, hB, r, ht, k⟩ => emb.mk hB r ht fun v H1 Fz1 d G1 r1 h1 => by
    cases d with
    | int n => exact ⟨n, by rw [r1.h1.inv_int], h1.1.1, h1.1.2, k _ H1 Fz1 _ _ G1 (fun p hp => List.mem_cons_of_mem _ hp) r1 sims_range h1.2⟩
    | _ => exact h1.elim
def iRg2 (ta tb : TE3) : TI3 := fun τ G R => ta τ G fun d G1 => tb τ G1 fun d2 G2 => match d, d2 with
  | .int a, .int b => (-(2 ^ 62) ≤ a ∧ a < 2 ^ 62 ∧ -(2 ^ 62) ≤ b ∧ b < 2 ^ 62) ∧ R (rgL a (b - a).toNat) G2
  | _, _ => False
theorem li_range2 {te2 : TE3} (hg : Gl X "range") (hm : X.mg "range" = none) (h : LE X B e te) (h2 : LE X B e2 te2) (hs : starEach [e, e2] X.env = [(false, eval e X.env), (false, eval e2 X.env)] := by rfl) (hs2 : starEach [e2] X.env = [(false, eval e2 X.env)] := by rfl)
    (hs' : starEach [e, e2] X.env = (false, eval e X.env) :: starEach [e2] X.env := by rfl) (hs2' : starEach [e2] X.env = (false, eval e2 X.env) :: starEach [] X.env := by rfl) : LI X B tg (.Call (.Name "range" p) [e, e2] [] pos) (iRg2 te te2) :=
  (pi_range2 hg hm (pa_cons h (pa_cons h2 pa_nil hs2') hs') hs hs2).imp fun σ H R ⟨Fz, tv, τ, G, R3, hB, r, ht, k⟩ => emb.mk hB r ht fun v H1 Fz1 d G1 r1 h1 => emb.mk (subB hB) r1 h1 fun u H2 Fz2 d2 G2 r2 h2 => by
    cases d with
    | int a => cases d2 with
      | int b => exact ⟨a, b, by rw [r2.h1.inv_int, r2.h2.inv_int], h2.1, k _ H2 Fz2 _ _ G2 (fun p hp => List.mem_cons_of_mem _ (List.mem_cons_of_mem _ hp)) r2 sims_range h2.2⟩
      | _ => exact h2.elim
    | _ => exact h2.elim
def iEnum3 (te : TE3) : TI3 := fun τ G R => te τ G fun d G1 => match d with
  | .lst ds => R (enL ds) G1
  | _ => False
theorem li_enum {tpos : Pos} {elts : List Expr} {kk : Nat} (hg : Gl X "enumerate") (hm : X.mg "enumerate" = none) (h : LE X B e te) (hs : starEach [e] X.env = [(false, eval e X.env)] := by rfl) (hs' : starEach [e] X.env = (false, eval e X.env) :: starEach [] X.env := by rfl) :
    LI X B (.Tuple elts kk tpos) (.Call (.Name "enumerate" p) [e] [] pos) (iEnum3 te) :=
  (pi_enum hg hm (pa_cons h pa_nil hs') hs).imp fun σ H R ⟨Fz, tv, τ, G, R3, hB, r, ht, k⟩ => emb.mk hB r ht fun v H1 Fz1 d G1 r1 h1 => by
    cases d with
    | lst ds =>
      obtain ⟨a, vs, rfl, s, q⟩ := r1.h1.inv_lst
      exact ⟨a, vs, rfl, SqL.of s.2, k _ H1 Fz1 _ _ G1 (fun p hp => List.mem_cons_of_mem _ hp) r1 (sims_enum List.mem_cons_self) h1⟩
    | _ => exact h1.elim
def iZip3 (ta tb : TE3) : TI3 := fun τ G R => ta τ G fun d G1 => tb τ G1 fun d2 G2 => match d, d2 with
  | .lst ds, .lst es => R (zpL ds es) G2
  | _, _ => False
theorem li_zip {te2 : TE3} {tpos : Pos} {elts : List Expr} {kk : Nat} (hg : Gl X "zip") (hm : X.mg "zip" = none) (h : LE X B e te) (h2 : LE X B e2 te2)
    (hs : starEach [e, e2] X.env = (false, eval e X.env) :: starEach [e2] X.env := by rfl) (hpl : (backTo pos (starEach [e2] X.env)).any (·.1) = false := by rfl) (hs2' : starEach [e2] X.env = (false, eval e2 X.env) :: starEach [] X.env := by rfl) :
    LI X B (.Tuple elts kk tpos) (.Call (.Name "zip" p) [e, e2] [] pos) (iZip3 te te2) :=
  (pi_zip hg hm (pa_cons h (pa_cons h2 pa_nil hs2') hs) hs hpl).imp fun σ H R ⟨Fz, tv, τ, G, R3, hB, r, ht, k⟩ => emb.mk hB r ht fun v H1 Fz1 d G1 r1 h1 => emb.mk (subB hB) r1 h1 fun u H2 Fz2 d2 G2 r2 h2 => by
    cases d with
    | lst ds => cases d2 with
      | lst es =>
        obtain ⟨a, vs, rfl, s, q⟩ := r2.h2.inv_lst
        obtain ⟨b, ws, rfl, s', q'⟩ := r2.h1.inv_lst
        exact ⟨a, b, vs, ws, rfl, SqL.of s.2, SqL.of s'.2, k _ H2 Fz2 _ _ G2 (fun p hp => List.mem_cons_of_mem _ (List.mem_cons_of_mem _ hp)) r2 (sims_zip (List.mem_cons_of_mem _ List.mem_cons_self) List.mem_cons_self) h2⟩
      | _ => exact h2.elim
    | _ => exact h2.elim

/-! ### for -/
def sFor (li : TI3) (g : TG3) (tb : TS3) : TS3 := fun D τ G => li τ G fun ds G1 => ∃ W : Nat → T3 → Gp → Prop, W 0 τ G1 ∧ (∀ i d τ G, ds[i]? = some d → W i τ G → g d τ G fun τ2 G2 => tb { D with nx := W (i + 1), ct := W (i + 1), bk := D.nx } τ2 G2) ∧ ∀ τ G, W ds.length τ G → D.nx τ G
theorem ls_for {li : TI3} {g : TG3} {tb : TS3} {ms : List Nat} {body : List Stmt} (hc : X.calm = true) (hi : LI X B tg e li) (hg : LG X B ms tg g) (hb : LB X B body tb) (hp : PassesOwn (model X.prog X.w) X.A X.env X.xe := by exact PassesOwn.never)
    (hs : ∀ x, foldedSetIterable e X.env x = pure x := by intro _; rfl) : LS X B (.For tg e body [] pos) (sFor li g tb) :=
  (ps_for hp hc hi hg hb hs).imp fun D σ H ⟨Fz, tv, τ, G, D3, hB, r, ht, k⟩ => ⟨Fz, tv, τ, G, _, hB, r, ht, fun J H1 Fz1 tv1 ds G1 hsub r1 S h1 => by
    obtain ⟨W, w0, step, done⟩ := h1
    refine ⟨fun i m σ H => m = ds.length - i ∧ i ≤ ds.length ∧ ∃ Fz τ G, Rel X.K tv1 τ G Fz σ H ∧ W i τ G, ⟨ds.length, by simp, Nat.zero_le _, Fz1, τ, G1, r1, w0⟩, ?_⟩
    rintro i m σ H ⟨rfl, hi, Fz2, τ2, G2, r2, w2⟩
    by_cases hlt : i < ds.length
    · refine .inr ⟨S.go r2 hlt, fun σ' H' => ∃ Fz τ G, Rel X.K tv1 τ G Fz σ' H' ∧ W (i + 1) τ G, fun σ' H' p' => ⟨ds.length - (i + 1), by omega, rfl, hlt, p'⟩, fun x H' y => ?_⟩
      have hd : ds[i]? = some ds[i] := by simp [hlt]
      obtain ⟨Fz3, r3⟩ := S.yld r2 hd y
      refine ⟨Fz3, tv1, τ2, G2, ds[i], _, fun p hp => hsub p (hB p hp), r3.tl, r3.h1, step i _ τ2 G2 hd w2, fun σ' τ' G' Fz' H' o' r' q => ?_⟩
      exact ⟨Fz', tv1, τ', G', _, fun p hp => hsub p (hB p hp), r', q, ⟨fun σ' τ' G' Fz' H' r' q => ⟨Fz', τ', G', r', q⟩, fun d G' v H' Fz' σ' τ' r' q => k.rt d G' v H' Fz' σ' τ' (r'.sub fun p hp => by
          rcases List.mem_cons.mp hp with h | h
          · rw [h]; exact List.mem_cons_self
          · exact List.mem_cons_of_mem _ (hsub p h)) q,
        fun σ' τ' G' Fz' H' r' q => k.nx σ' τ' G' Fz' H' (r'.sub hsub) q, fun σ' τ' G' Fz' H' r' q => ⟨Fz', τ', G', r', q⟩⟩⟩
    · have e : i = ds.length := by omega
      subst e
      exact .inl ⟨S.stop r2 (Nat.le_refl _), k.nx σ τ2 G2 Fz2 H (r2.sub hsub) (done τ2 G2 w2)⟩⟩
/-! ### while -/
def sWhile (c : TT3) (tb : TS3) : TS3 := fun D τ G => ∃ W : Nat → T3 → Gp → Prop, (∃ m, W m τ G) ∧ ∀ m τ G, W m τ G → c τ G fun b G1 => if b = true then tb { D with nx := fun τ' G' => ∃ m', m' < m ∧ W m' τ' G', ct := fun τ' G' => ∃ m', m' < m ∧ W m' τ' G', bk := D.nx } τ G1 else D.nx τ G1
theorem ls_while {c : Expr} {body : List Stmt} {tc : TT3} {tb : TS3} (hc : LT X B c tc) (hb : LB X B body tb) (hp : PassesOwn (model X.prog X.w) X.A X.env X.xe := by exact PassesOwn.never) : LS X B (.While c body [] pos) (sWhile tc tb) :=
  (ps_while hp hc hb).imp fun D σ H ⟨Fz, tv, τ, G, D3, hB, r, ht, k⟩ => by
    obtain ⟨W, ⟨m0, w0⟩, step⟩ := ht
    refine ⟨fun m σ H => ∃ Fz τ G, Rel X.K tv τ G Fz σ H ∧ W m τ G, ⟨m0, Fz, τ, G, r, w0⟩, ?_⟩
    rintro m σ H ⟨Fz2, τ2, G2, r2, w2⟩
    refine embT.mk hB r2 (step m τ2 G2 w2) fun b H1 Fz1 G1 r1 h1 => ?_
    cases b with
    | true =>
      refine ⟨fun σ' H' => ∃ m', m' < m ∧ ∃ Fz τ G, Rel X.K tv τ G Fz σ' H' ∧ W m' τ G, fun σ' H' h => h, Fz1, tv, τ2, G1, _, hB, r1, h1, ?_⟩
      exact ⟨fun σ' τ' G' Fz' H' r' ⟨m', hm, q⟩ => ⟨m', hm, Fz', τ', G', r', q⟩, k.rt, k.nx, fun σ' τ' G' Fz' H' r' ⟨m', hm, q⟩ => ⟨m', hm, Fz', τ', G', r', q⟩⟩
    | false => exact k.nx σ τ2 G1 Fz1 H1 r1 h1
/-! ### comprehensions -/
def wipe3 (τ : T3) : List Nat → T3
  | [] => τ
  | v :: vs => (wipe3 τ vs).set v none
theorem wipe3_length (τ : T3) : ∀ vs : List Nat, (wipe3 τ vs).length = τ.length
  | [] => rfl
  | v :: vs => by unfold wipe3; rw [List.length_set, wipe3_length τ vs]
theorem wipe_get {σ : L2.St} {i : Nat} : ∀ {vs : List Nat}, i ∉ vs → (wipe σ vs)[i]? = σ[i]?
  | [], _ => rfl
  | v :: vs, h => by
    unfold wipe
    rw [List.getElem?_set_ne (fun e => h (by rw [e]; exact List.mem_cons_self))]
    exact wipe_get fun z => h (List.mem_cons_of_mem _ z)
theorem wipe3_get {τ : T3} {i : Nat} {d : D} : ∀ {vs : List Nat}, (wipe3 τ vs)[i]? = some (some d) → τ[i]? = some (some d) ∧ i ∉ vs
  | [], h => ⟨h, by simp⟩
  | v :: vs, h => by
    unfold wipe3 at h
    rw [List.getElem?_set] at h
    split at h
    · split at h <;> cases h
    · rename_i hv
      obtain ⟨a, b⟩ := wipe3_get h
      exact ⟨a, by simp only [List.mem_cons, not_or]; exact ⟨fun e => hv e.symm, b⟩⟩
theorem wipe_none {σ : L2.St} {i : Nat} : ∀ {vs : List Nat}, i ∈ vs → i < σ.length → (wipe σ vs)[i]? = some none
  | [], h, _ => nomatch h
  | v :: vs, h, hl => by
    unfold wipe
    rw [List.getElem?_set]
    split
    · rename_i e
      rw [if_pos (by rw [wipe_length]; omega)]
    · rename_i e
      rcases List.mem_cons.mp h with h | h
      · exact absurd h.symm e
      · exact wipe_none h hl
theorem wipe_out3 {ms vs : List Nat} {σ σ' : L2.St} (o : Out ms (wipe σ vs) σ') (h : ∀ i ∈ ms, i ∈ vs) : wipe σ' vs = wipe σ vs := by
  have hl : σ'.length = σ.length := o.1.trans (wipe_length σ vs)
  refine List.ext_getElem? fun i => ?_
  by_cases hi : i ∈ vs
  · by_cases hlt : i < σ.length
    · rw [wipe_none hi (by rw [hl]; exact hlt), wipe_none hi hlt]
    · rw [List.getElem?_eq_none (by rw [wipe_length, hl]; omega), List.getElem?_eq_none (by rw [wipe_length]; omega)]
  · rw [wipe_get hi, o.2 i fun z => hi (h i z)]
theorem Rel.wiped {K : PySem.W.Frag} {tv : BT} {τ : T3} {G : Gp} {Fz : Addr → Prop} {σ : L2.St} {H : Hp} (r : Rel K tv τ G Fz σ H) (vs : List Nat) : Rel K tv (wipe3 τ vs) G Fz (wipe σ vs) H :=
  ⟨by rw [wipe_length, wipe3_length, r.len], fun i d e => by
    obtain ⟨a, b⟩ := wipe3_get e
    obtain ⟨v, hv, rv⟩ := r.slot i d a
    exact ⟨v, by rw [wipe_get b]; exact hv, rv⟩, r.tmp, r.hr⟩
/-- [e for x in xs if ..]: the new list as it grows stands at p -/
def lLc (li : TI3) (g : TG3) (tt : TT3) (te : TE3) (vs : List Nat) : TE3 := fun τ G Q => li τ G fun ds G1 => ∀ p, G1 p = none → ∃ W : Nat → List D → Gp → Prop, W 0 [] (gup G1 p (.lst [])) ∧
  (∀ i d acc G, ds[i]? = some d → W i acc G → g d (wipe3 τ vs) G fun τ2 G2 => tt τ2 G2 fun b G3 => if b = true then te τ2 G3 fun y G4 => G4 p = some (.lst acc) ∧ acc.length < sizeLine ∧ W (i + 1) (acc ++ [y]) (gup G4 p (.lst (acc ++ [y]))) else W (i + 1) acc G3) ∧
  ∀ acc G, W ds.length acc G → G p = some (.lst acc) ∧ Q (.lst acc) (gdel G p)
structure LTs (X : Cx) (B : BT) (ifs : List Expr) (t : TT3) : Prop where
  run : PTs X ifs (embT X.K B t)
def tYes3 : TT3 := fun _ G Q => Q true G
theorem lts_nil : LTs X B [] tYes3 := ⟨⟨fun pins s σ H Q I h => pts_nil.run pins s σ H Q I (by
  obtain ⟨Fz, tv, τ, G, Q3, hB, r, ht, k⟩ := h
  exact k true H ⟨Fz, G, r, ht⟩)⟩⟩
theorem lts_one {c : Expr} {t : TT3} (h : LT X B c t) : LTs X B [c] t := ⟨pts_one h⟩
theorem tLc_of {li : TI3} {g : TG3} {tt : TT3} {te : TE3} {vs ms : List Nat} (hms : ∀ i ∈ ms, i ∈ vs) {σ : L2.St} {H : Hp} {Q : VK} (h : emb X.K B (lLc li g tt te vs) σ H Q) :
    tLc (embI X.K B li) (embG X.K B ms g) (embT X.K B tt) (emb X.K B te) vs σ H Q := by
  obtain ⟨Fz, tv, τ, G, Q3, hB, r, ht, k⟩ := h
  refine ⟨Fz, tv, τ, G, _, hB, r, ht, fun J H1 Fz1 tv1 ds G1 hsub r1 S h1 L hL => ?_⟩
  obtain ⟨W, w0, step, done⟩ := h1 L (r1.hr.free hL)
  have r0 := r1.ext (Ext.newG r1.hr hL) (r1.hr.newG (g := .lst []) hL ⟨[], upd_same, .nil⟩)
  -- what is kept of the outer slots: as temporaries
  let tvx := slotsL σ τ ++ tv1
  refine ⟨fun i m H => m = ds.length - i ∧ i ≤ ds.length ∧ ∃ acc Fz G, HRel X.K Fz H G ∧ (∀ p ∈ tvx, Rep X.K Fz H p.1 p.2) ∧ W i acc G,
    ⟨ds.length, by simp, Nat.zero_le _, [], _, _, r0.hr, fun p hp => (List.mem_append.mp hp).elim (r0.slots_rep p) (r0.tmp p), w0⟩, ?_⟩
  rintro i m H ⟨rfl, hi, acc, Fz2, G2, hr2, hx2, w2⟩
  have hS : Rel X.K tvx τ G2 Fz2 σ H := r1.again hr2 (fun p hp => hx2 p (List.mem_append_left _ hp)) (fun p hp => hx2 p (List.mem_append_right _ hp)) |>.slots r1.len (fun i d e => by
    obtain ⟨v, hv, _⟩ := r1.slot i d e
    exact ⟨v, hv, hx2 _ (List.mem_append_left _ (slots_in hv e))⟩) |> fun z => ⟨z.len, z.slot, hx2, hr2⟩
  have Sx := S.mono (tv' := tvx) fun p hp => List.mem_append_right _ hp
  have hBx : ∀ p ∈ B, p ∈ tvx := fun p hp => List.mem_append_right _ (hsub p (hB p hp))
  by_cases hlt : i < ds.length
  · refine .inr ⟨Sx.go hS hlt, fun H' => ∃ acc Fz G, HRel X.K Fz H' G ∧ (∀ p ∈ tvx, Rep X.K Fz H' p.1 p.2) ∧ W (i + 1) acc G, fun H' p' => ⟨ds.length - (i + 1), by omega, rfl, hlt, p'⟩, fun x H' y => ?_⟩
    have hd : ds[i]? = some ds[i] := by simp [hlt]
    obtain ⟨Fz3, r3⟩ := Sx.yld hS hd y
    refine ⟨Fz3, tvx, wipe3 τ vs, G2, ds[i], _, hBx, r3.tl.wiped vs, r3.h1, step i _ acc G2 hd w2, fun σ' τ' G' Fz' H' o' r' q => ⟨wipe_out3 o' hms, ?_⟩⟩
    refine embT.mk hBx r' q fun b H4 Fz4 G4 r4 q4 => ?_
    cases b with
    | true =>
      simp only [if_true] at q4 ⊢
      refine emb.mk hBx r4 q4 fun v H5 Fz5 d G5 r5 q5 => ?_
      obtain ⟨e1, e2, e3⟩ := q5
      obtain ⟨_, ws, h1, h2⟩ := r5.hr.go _ _ e1
      have hl : ws.length = acc.length := h2.len
      have hr6 := r5.hr.wr (o := .lst (ws ++ [v])) (g := .lst (acc ++ [d])) e1 ⟨_, upd_same, (h2.append (.one r5.h1)).ext (Ext.wr r5.hr e1)⟩
      exact ⟨ws, h1, by rw [hl]; exact e2, _, Fz5, _, hr6, fun p hp => (r5.tl.tmp p hp).ext (Ext.wr r5.hr e1), e3⟩
    | false =>
      simp only [Bool.false_eq_true, if_false] at q4 ⊢
      exact ⟨acc, Fz4, G4, r4.hr, r4.tmp, q4⟩
  · have e : i = ds.length := by omega
    subst e
    obtain ⟨e1, e2⟩ := done acc G2 w2
    refine .inl ⟨Sx.stop hS (Nat.le_refl _), ?_⟩
    have r4 : Rel X.K tv τ (gdel G2 L) (fzup Fz2 L) σ H := (hS.sub fun p hp => List.mem_append_right _ (hsub p hp)).ext Ext.frz (hS.hr.frz e1)
    exact k _ H (.mk r4 ((frz_rep hS.hr).1 acc e1) e2)
theorem le_lc {elt : Expr} {ifs : List Expr} {scope : Scope} {li : TI3} {g : TG3} {tt : TT3} {te : TE3} {ms : List Nat} (own : List (Str × Nat)) (hc : X.calm = true) (hN : X.N.Nodup) (hi : LI X B tg e li) (ok : BlkOk X.N X.env.scope scope own)
    (hg : ∀ (s : Shared) (H : Hp) (C : Addr) (cl : List (Str × Addr)) (fp : List Addr), LG (X.blk s H scope (compEnvC scope cl C X.env) fp) B ms tg g) (ht : ∀ (s : Shared) (H : Hp) (C : Addr) (cl : List (Str × Addr)) (fp : List Addr), LTs (X.blk s H scope (compEnvC scope cl C X.env) fp) B ifs tt)
    (he : ∀ (s : Shared) (H : Hp) (C : Addr) (cl : List (Str × Addr)) (fp : List Addr), LE (X.blk s H scope (compEnvC scope cl C X.env) fp) B elt te) (hms : ∀ i ∈ ms, i ∈ own.map (·.2) := by decide) (hs : ∀ x, foldedSetIterable e X.env x = pure x := by intro _; rfl) :
    LE X B (.ListComp elt [⟨tg, e, ifs, 0⟩] scope pos) (lLc li g tt te (own.map (·.2))) :=
  (pe_lc hc hN hi ok hg (fun s H C cl fp => (ht s H C cl fp).run) he hs).imp fun _ _ _ h => tLc_of hms h
theorem ls_setLc (i : Nat) {y : Str} {py spos : Pos} {elt : Expr} {ifs : List Expr} {scope : Scope} {li : TI3} {g : TG3} {tt : TT3} {te : TE3} {ms : List Nat} (own : List (Str × Nat)) (hc : X.calm = true) (hN : X.N.Nodup) (hi : LI X B tg e li) (ok : BlkOk X.N X.env.scope scope own)
    (hg : ∀ (s : Shared) (H : Hp) (C : Addr) (cl : List (Str × Addr)) (fp : List Addr), LG (X.blk s H scope (compEnvC scope cl C X.env) fp) B ms tg g) (ht : ∀ (s : Shared) (H : Hp) (C : Addr) (cl : List (Str × Addr)) (fp : List Addr), LTs (X.blk s H scope (compEnvC scope cl C X.env) fp) B ifs tt)
    (he : ∀ (s : Shared) (H : Hp) (C : Addr) (cl : List (Str × Addr)) (fp : List Addr), LE (X.blk s H scope (compEnvC scope cl C X.env) fp) B elt te)
    (hsw : swapsWith (.ListComp elt [⟨tg, e, ifs, 0⟩] scope pos) (some (.Name y py)) spos.line X.env = pure true) (hy : X.N[i]? = some y := by rfl) (hyl : X.env.scope.names.lookup y = some .local := by rfl)
    (hms : ∀ i ∈ ms, i ∈ own.map (·.2) := by decide) (hs : ∀ x, foldedSetIterable e X.env x = pure x := by intro _; rfl) :
    LS X B (.Assign [.Name y py] (.ListComp elt [⟨tg, e, ifs, 0⟩] scope pos) spos) (sAsg (lLc li g tt te (own.map (·.2))) (gName3 i)) :=
  (ps_setLc hc hN hy hyl hsw hi ok hg (fun s H C cl fp => (ht s H C cl fp).run) he hs).imp fun D σ H ⟨Fz, tv, τ, G, D3, hB, r, ht, k⟩ => tLc_of hms ⟨Fz, tv, τ, G, _, hB, r, ht, fun v H' ⟨Fz', d, G', r', q⟩ => k.nx _ _ G' Fz' H' (r'.tl.set r'.h1 i) q⟩
end
end L3
end

section
set_option Elab.async false
set_option linter.all false
set_option maxRecDepth 100000
set_option maxHeartbeats 4000000
/-! L3g: attributes, methods, making, dicts, methods of lists, list items set. -/
namespace L3
open PySem PySem.Spec PyProof.Rows L2

/-! ### attributes -/
def lFld (K : PySem.W.Frag) (f : Str) (te : TE3) : TE3 := fun τ G Q => te τ G fun d G1 => ∃ C fs d', insOf G1 d = some (C, fs) ∧ Cls K C ∧ NoAttr K C f ∧ fs.lookup f = some d' ∧ Q d' G1
def putD (f : Str) (y : D) : List (Str × D) → List (Str × D)
  | [] => [(f, y)]
  | (k, d) :: r => if k = f then (k, y) :: r else (k, d) :: putD f y r
theorem RepKs.nil {κ : Type} {K : PySem.W.Frag} {Fz : Addr → Prop} {H : Hp} : RepKs K Fz H ([] : List (κ × V)) [] := ⟨rfl, fun i p q a _ => by simp at a⟩
theorem RepKs.cons {κ : Type} {K : PySem.W.Frag} {Fz : Addr → Prop} {H : Hp} {k : κ} {v : V} {d : D} {vs : List (κ × V)} {ds : List (κ × D)} (r : Rep K Fz H v d) (q : RepKs K Fz H vs ds) : RepKs K Fz H ((k, v) :: vs) ((k, d) :: ds) :=
  ⟨by simp [q.keys], fun i a b h h' => by
    cases i with
    | zero => cases Option.some.inj h; cases Option.some.inj h'; exact r
    | succ i => exact q.at_ i a b (by simpa using h) (by simpa using h')⟩
theorem RepKs.inv_cons {κ : Type} {K : PySem.W.Frag} {Fz : Addr → Prop} {H : Hp} {k : κ} {d : D} {vs : List (κ × V)} {ds : List (κ × D)} (r : RepKs K Fz H vs ((k, d) :: ds)) : ∃ v ws, vs = (k, v) :: ws ∧ Rep K Fz H v d ∧ RepKs K Fz H ws ds := by
  cases vs with
  | nil => have := r.keys; simp at this
  | cons p ws =>
    obtain ⟨k', v⟩ := p
    have hk := r.keys
    simp only [List.map_cons, List.cons.injEq] at hk
    obtain ⟨e, hk⟩ := hk
    have e' : k' = k := e
    subst e'
    exact ⟨v, ws, rfl, r.at_ 0 _ _ rfl rfl, hk, fun i a b h h' => r.at_ (i + 1) a b (by simpa using h) (by simpa using h')⟩
theorem RepKs.inv_nil {κ : Type} {K : PySem.W.Frag} {Fz : Addr → Prop} {H : Hp} {vs : List (κ × V)} (r : RepKs K Fz H vs ([] : List (κ × D))) : vs = [] := by
  have := r.keys
  simpa using this
theorem RepKs.putF {K : PySem.W.Frag} {Fz : Addr → Prop} {H : Hp} {f : Str} {v : V} {d : D} (r : Rep K Fz H v d) : ∀ {fs : List (Str × D)} {vs : List (Str × V)}, RepKs K Fz H vs fs → RepKs K Fz H (L2.putF f v vs) (putD f d fs)
  | [], vs, q => by rw [q.inv_nil]; exact .cons r .nil
  | (k, x) :: fs, vs, q => by
    obtain ⟨u, ws, rfl, ru, rw'⟩ := q.inv_cons
    unfold L2.putF putD
    split
    · exact .cons r rw'
    · exact .cons ru (RepKs.putF r rw')
section
variable {X : Cx} {B : BT} {o e value : Expr} {f : Str} {pos pos' : Pos} {te to tw : TE3}
theorem le_fld (he : LE X B e te) (hb : attributeBase e f X.env (eval e X.env) = eval e X.env := by rfl) : LE X B (.Attribute e f pos) (lFld X.K f te) :=
  (pe_fld he hb).imp fun σ H Q ⟨Fz, tv, τ, G, Q3, hB, r, ht, k⟩ => emb.mk hB r ht fun v H1 Fz1 d G1 r1 ⟨C, fs, d', e1, c, n, l, q⟩ => by
    obtain ⟨a, dx, vs, rfl, h1, rk⟩ := ins_at r1.hr r1.h1 e1
    obtain ⟨v', hv, rv⟩ := (rk.lookup f).1 d' l
    exact ⟨a, C, dx, vs, v', rfl, h1, c, n, hv, k v' H1 (.mk r1.tl rv q)⟩
/-- o.f = value -/
def sFld3 (K : PySem.W.Frag) (to tw : TE3) (f : Str) : TS3 := fun D τ G => tw τ G fun y G1 => to τ G1 fun x G2 => match x with
  | .ref p => (match G2 p with
    | some (.ins C fs) => Cls K C ∧ NoAttr K C f ∧ fs.length < 1000 ∧ D.nx τ (gup G2 p (.ins C (putD f y fs)))
    | _ => False)
  | _ => False
theorem ls_fld (ha : LE X B o to) (hv : LE X B value tw) (hs : swapsWith value (some (.Attribute o f pos')) pos.line X.env = pure false := by rfl) : LS X B (.Assign [.Attribute o f pos'] value pos) (sFld3 X.K to tw f) :=
  (ps_fld ha hv hs).imp fun D σ H ⟨Fz, tv, τ, G, D3, hB, r, ht, k⟩ => emb.mk hB r ht fun v H1 Fz1 y G1 r1 h1 => emb.mk (subB hB) r1 h1 fun u H2 Fz2 x G2 r2 h2 => by
    cases x with
    | ref p =>
      have h2' : (match G2 p with
        | some (.ins C fs) => Cls X.K C ∧ NoAttr X.K C f ∧ fs.length < 1000 ∧ D3.nx τ (gup G2 p (.ins C (putD f y fs)))
        | _ => False) := h2
      split at h2'
      · rename_i C fs e
        obtain ⟨_, dx, vs, ha, rk⟩ := r2.hr.go _ _ e
        obtain ⟨c, n, hl, q⟩ := h2'
        have ew := Ext.wr (o := .ins C dx (L2.putF f v vs)) r2.hr e
        have hr3 := r2.hr.wr (o := .ins C dx (L2.putF f v vs)) (g := .ins C (putD f y fs)) e ⟨dx, _, upd_same, (rk.putF r2.h2).ext ew⟩
        exact ⟨p, C, dx, vs, r2.h1.inv_ref, ha, c, n, by rw [rk.len]; exact hl, k.nx σ τ _ Fz2 _ (r2.tl2.ext ew hr3) q⟩
      · exact h2'.elim
    | _ => exact h2.elim
end

/-! ### methods -/
/-- a def that may be called as the method m of C -/
structure CalM (P : Program) (w : World) (K : PySem.W.Frag) (mg : Str → Option Value) (base : Heap) (C : Addr) (m : Str) (k : Nat) (sp : Sp3) (ddv : List D) : Prop where
  cls : Cls K C
  ex : ∃ (f : Addr) (fd : FuncData) (ps : List Str) (dvs : List V) (ds : List Value), Meth K C m f ∧ FnOk P w K mg base CX0 k f fd ps (low K sp) ∧ Binds K fd ps ds ∧ Vals dvs ds ∧ ∀ Fz H, Reps K Fz H dvs ddv
def lMeth (C : Addr) (m : Str) (sp : Sp3) (ddv : List D) (te : TE3) (t : TA3) : TE3 := fun τ G Q => te τ G fun d G1 => ∃ fs, insOf G1 d = some (C, fs) ∧ fs.lookup m = none ∧ t τ G1 fun ds G2 => sp (d :: (ds ++ ddv)) G2 Q
section
variable {X : Cx} {B : BT} {o e : Expr} {es : List Expr} {m : Str} {pos apos : Pos} {to : TE3} {t : TA3} {C : Addr} {k : Nat} {sp : Sp3} {ddv : List D} {pl : Sem Bool}
theorem le_meth (M : CalM X.prog X.w X.K X.mg X.base C m k sp ddv) (hr : Room k X.A) (ho : LE X B o to) (ha : LA X B (e :: es) t)
    (hst : starEach (e :: es) X.env = (false, eval e X.env) :: starEach es X.env := by rfl) (hpl : (backTo pos (starEach es X.env)).any (·.1) = false := by rfl)
    (ht : eval (.Call (.Attribute o m apos) (e :: es) [] pos) X.env = (do
      let ov ← eval o X.env
      standAt apos.atName
      let (f, first) ← holding [ov] (getMethod ov m pl)
      callWith pos f first (backTo pos (starEach (e :: es) X.env)) (backToKw pos (keywordEach [] X.env))) := by rfl) : LE X B (.Call (.Attribute o m apos) (e :: es) [] pos) (lMeth C m sp ddv to t) := by
  obtain ⟨f, fd, ps, dvs, ds, hm, F, hb, hd, hv⟩ := M.ex
  exact (pe_meth ho M.cls hm F hr hb hd pass0 ha hst hpl ht).imp fun σ H Q ⟨Fz, tv, τ, G, Q3, hB, r, ht, kk⟩ => emb.mk hB r ht fun v H1 Fz1 d G1 r1 ⟨fs, e1, l, q⟩ => by
    obtain ⟨a, dx, vs, rfl, h1, rk⟩ := ins_at r1.hr r1.h1 e1
    refine ⟨a, dx, vs, rfl, h1, (rk.lookup m).2 l, embA.mk (subB hB) r1 q fun vs H2 Fz2 ds G2 rs r2 h2 => ?_⟩
    exact low_of (E := E0) (vs := .ref a :: (vs ++ dvs)) (ds := d :: (ds ++ ddv)) r2.tl (.cons r2.h1 (rs.append (hv _ _))) h2 kk
theorem le_meth0 (M : CalM X.prog X.w X.K X.mg X.base C m k sp ddv) (hr : Room k X.A) (ho : LE X B o to)
    (ht : eval (.Call (.Attribute o m apos) [] [] pos) X.env = (do
      let ov ← eval o X.env
      standAt apos.atName
      let (f, first) ← holding [ov] (getMethod ov m pl)
      callWith pos f first (backTo pos (starEach [] X.env)) (backToKw pos (keywordEach [] X.env))) := by rfl) : LE X B (.Call (.Attribute o m apos) [] [] pos) (lMeth C m sp ddv to lNil) := by
  obtain ⟨f, fd, ps, dvs, ds, hm, F, hb, hd, hv⟩ := M.ex
  exact (pe_meth0 ho M.cls hm F hr hb hd pass0 ht).imp fun σ H Q ⟨Fz, tv, τ, G, Q3, hB, r, ht, kk⟩ => emb.mk hB r ht fun v H1 Fz1 d G1 r1 ⟨fs, e1, l, q⟩ => by
    obtain ⟨a, dx, vs, rfl, h1, rk⟩ := ins_at r1.hr r1.h1 e1
    refine ⟨a, dx, vs, rfl, h1, (rk.lookup m).2 l, ?_⟩
    exact low_of (E := E0) (vs := .ref a :: ([] ++ dvs)) (ds := d :: ([] ++ ddv)) r1.tl (.cons r1.h1 (Reps.append .nil (hv _ _))) q kk

/-! ### making -/
/-- a class that may be made by its name -/
structure CalN (P : Program) (w : World) (K : PySem.W.Frag) (mg : Str → Option Value) (base : Heap) (x : Str) (C : Addr) (k : Nat) (sp : Sp3) (ddv : List D) : Prop where
  ex : ∃ (f : Addr) (fd : FuncData) (ps : List Str) (dvs : List V) (ds : List Value), mg x = some (.ref C) ∧ Mk K C f ∧ FnOk P w K mg base CX0 k f fd ps (low K sp) ∧ Binds K fd ps ds ∧ Vals dvs ds ∧ ∀ Fz H, Reps K Fz H dvs ddv
/-- what is made may come back as data: M -/
def lMake (C : Addr) (sp : Sp3) (ddv : List D) (t : TA3) : TE3 := fun τ G Q => t τ G fun ds G1 => ∀ p, G1 p = none → sp (.ref p :: (ds ++ ddv)) (gup G1 p (.ins C [])) fun d G2 => d = .non ∧ Q (.ref p) G2
theorem le_make {x : Str} {p : Pos} (M : CalN X.prog X.w X.K X.mg X.base x C k sp ddv) (hr : Room (k + 1) X.A) (ha : LA X B (e :: es) t) (hg : Gl X x := by rfl) (hdb : (x == ("__debug__" : Str)) = false := by decide) (he : starEach (e :: es) X.env = (false, eval e X.env) :: starEach es X.env := by rfl)
    (hpl : (backTo pos (starEach es X.env)).any (·.1) = false := by rfl) : LE X B (.Call (.Name x p) (e :: es) [] pos) (lMake C sp ddv t) := by
  obtain ⟨f, fd, ps, dvs, ds, hm, mk, F, hb, hd, hv⟩ := M.ex
  exact (pe_make mk F hr hg hm hb hd pass0 ha hdb he hpl).imp fun σ H Q ⟨Fz, tv, τ, G, Q3, hB, r, ht, kk⟩ => embA.mk hB r ht fun vs H1 Fz1 ds G1 rs r1 h1 a dx ha hdx hne => by
    -- the dict of the instance stands apart
    have hdx' : H1 dx = none := hdx
    have r2 := r1.new (o := .own a) hdx
    have ha2 : upd H1 dx (.own a) a = none := by rw [upd_ne (Ne.symm hne)]; exact ha
    have e3 : Ext (fzup Fz1 dx) (upd H1 dx (.own a)) (fzup Fz1 dx) (upd (upd H1 dx (.own a)) a (.ins C dx [])) := Ext.newG r2.hr ha2
    have hr3 := r2.hr.newG (g := .ins C []) ha2 ⟨dx, [], upd_same, .nil⟩
    have r3 := r2.ext e3 hr3
    have rs3 : Reps X.K _ _ (V.ref a :: (vs ++ dvs)) (D.ref a :: (ds ++ ddv)) := .cons (.ref a) ((((rs.ext (r1.ext1 hdx)).ext e3)).append (hv _ _))
    refine low_of (E := E0) r3 rs3 (h1 a (r1.hr.free ha)) fun v H' hp => ?_
    obtain ⟨Fz', d, G', r', hd, q⟩ := hp
    subst hd
    exact ⟨r'.h1.inv_non, kk _ H' (.mk r'.tl (.ref a) q)⟩
end

/-! ### methods of lists -/
/-- the receiver is a list that may change -/
def lLm (r : Addr → List D → List D → Gp → K3 → Prop) (to : TE3) (t : TA3) : TE3 := fun τ G Q => to τ G fun d G1 => match d with
  | .ref p => (match G1 p with
    | some (.lst _) => t τ G1 fun ds G2 => (match G2 p with
      | some (.lst xs) => r p xs ds G2 Q
      | _ => False)
    | _ => False)
  | _ => False
def SimL (K : PySem.W.Frag) (r0 : V → List V → Hp → VK → Prop) (r3 : Addr → List D → List D → Gp → K3 → Prop) : Prop := ∀ {Fz : Addr → Prop} {σ : L2.St} {H : Hp} {tv : BT} {τ : T3} {G : Gp} {p : Addr} {vs ws : List V} {xs ds : List D} {Q : VK} {Q3 : K3},
  Rel K tv τ G Fz σ H → G p = some (.lst xs) → H p = some (.lst vs) → Reps K Fz H vs xs → Reps K Fz H ws ds → r3 p xs ds G Q3 → (∀ w H', PostE K tv τ σ Q3 w H' → Q w H') → r0 (.ref p) ws H Q
def rApp3 : Addr → List D → List D → Gp → K3 → Prop := fun p xs ds G Q => match ds with
  | [y] => xs.length < sizeLine ∧ Q .non (gup G p (.lst (xs ++ [y])))
  | _ => False
theorem sim_app {K : PySem.W.Frag} : SimL K rAppend rApp3 := by
  intro Fz σ H tv τ G p vs ws xs ds Q Q3 r hG hH rx rd h k
  match ds, h with
  | [y], h =>
    obtain ⟨u, rfl, ru⟩ := rd.one_inv
    have ew := Ext.wr (o := .lst (vs ++ [u])) r.hr hG
    have hr3 := r.hr.wr (o := .lst (vs ++ [u])) (g := .lst (xs ++ [y])) hG ⟨_, upd_same, (rx.append (.one ru)).ext ew⟩
    exact ⟨p, vs, u, rfl, rfl, hH, by rw [rx.len]; exact h.1, k _ _ (.mk (r.ext ew hr3) .non h.2)⟩
  | [], h => exact h.elim
  | _ :: _ :: _, h => exact h.elim
def rPop3 : Addr → List D → List D → Gp → K3 → Prop := fun p xs ds G Q => match ds with
  | [.int i] => (-(2 ^ 63) ≤ i ∧ i < 2 ^ 63) ∧ ∃ k y, seqIndex? i xs.length = some k ∧ xs[k]? = some y ∧ Q y (gup G p (.lst (xs.eraseIdx k)))
  | _ => False
theorem Reps.eraseIdx {K : PySem.W.Frag} {Fz : Addr → Prop} {H : Hp} : ∀ {vs : List V} {ds : List D} (j : Nat), Reps K Fz H vs ds → Reps K Fz H (vs.eraseIdx j) (ds.eraseIdx j)
  | vs, [], j, r => by rw [r.inv_nil]; simpa using Reps.nil
  | vs, d :: ds, 0, r => by
    obtain ⟨v, ws, rfl, _, rw'⟩ := r.inv_cons
    exact rw'
  | vs, d :: ds, j + 1, r => by
    obtain ⟨v, ws, rfl, rv, rw'⟩ := r.inv_cons
    exact .cons rv (Reps.eraseIdx j rw')
theorem sim_pop {K : PySem.W.Frag} : SimL K rPopAt rPop3 := by
  intro Fz σ H tv τ G p vs ws xs ds Q Q3 r hG hH rx rd h k
  match ds, h with
  | [.int i], h =>
    obtain ⟨⟨b1, b2⟩, j, y, e1, e2, q⟩ := h
    obtain ⟨u, rfl, ru⟩ := rd.one_inv
    obtain ⟨w, hw, rw'⟩ := rx.get e2
    have ew := Ext.wr (o := .lst (vs.eraseIdx j)) r.hr hG
    have hr3 := r.hr.wr (o := .lst (vs.eraseIdx j)) (g := .lst (xs.eraseIdx j)) hG ⟨_, upd_same, (rx.eraseIdx j).ext ew⟩
    exact ⟨p, vs, i, j, w, rfl, by rw [ru.inv_int], hH, b1, b2, by rw [rx.len]; exact e1, hw, k _ _ (.mk (r.ext ew hr3) (rw'.ext ew) q)⟩
def rIns3 : Addr → List D → List D → Gp → K3 → Prop := fun p xs ds G Q => match ds with
  | [.int i, y] => xs.length < sizeLine ∧ 0 ≤ i ∧ i < 2 ^ 63 ∧ Q .non (gup G p (.lst (xs.take i.toNat ++ [y] ++ xs.drop i.toNat)))
  | _ => False
theorem sim_ins {K : PySem.W.Frag} : SimL K (fun x vs H Q => ∃ (l : Addr) (xs : List V) (i : Int) (y : V), x = .ref l ∧ vs = [.int i, y] ∧ H l = some (.lst xs) ∧ xs.length < sizeLine ∧ 0 ≤ i ∧ i < 2 ^ 63 ∧
    Q .non (upd H l (.lst (xs.take i.toNat ++ [y] ++ xs.drop i.toNat)))) rIns3 := by
  intro Fz σ H tv τ G p vs ws xs ds Q Q3 r hG hH rx rd h k
  match ds, h with
  | [.int i, y], h =>
    obtain ⟨b0, b1, b2, q⟩ := h
    obtain ⟨u, u2, rfl, ru, ru2⟩ := rd.two_inv
    have ew := Ext.wr (o := .lst (vs.take i.toNat ++ [u2] ++ vs.drop i.toNat)) r.hr hG
    have hr3 := r.hr.wr (o := .lst (vs.take i.toNat ++ [u2] ++ vs.drop i.toNat)) (g := .lst (xs.take i.toNat ++ [y] ++ xs.drop i.toNat)) hG ⟨_, upd_same, (((rx.take _).append (.one ru2)).append (rx.drop _)).ext ew⟩
    exact ⟨p, vs, i, u2, rfl, by rw [ru.inv_int], hH, by rw [rx.len]; exact b0, b1, b2, k _ _ (.mk (r.ext ew hr3) .non q)⟩
section
variable {X : Cx} {B : BT} {o e : Expr} {es : List Expr} {name : Str} {apos cpos : Pos} {id : String} {to : TE3} {t : TA3} {r0 : V → List V → Hp → VK → Prop} {r3 : Addr → List D → List D → Gp → K3 → Prop}
theorem le_lm (slot : Slot "list" name id) (hty : typeOf (.builtin id) = pure (.type "method_descriptor")) (hm : MtR X id r0) (hs : SimL X.K r0 r3) (ho : LE X B o to) (ha : LA X B (e :: es) t) (pa : PlainAttrs "list" := by exact PySem.F.plainAttrs_list)
    (hbase : attributeBase o name X.env (eval o X.env) = eval o X.env := by rfl)
    (hfew : ((backTo cpos (starEach (e :: es) X.env)).all (fun x => !x.1) && (backToKw cpos (keywordEach [] X.env)).all (fun x => x.1.isSome)
      && decide ((e :: es).length + ([] : List Keyword).length + (if ([] : List Keyword).isEmpty then 0 else 1) < 30)) = true := by rfl)
    (hline : (apos.endLine == cpos.line) = true := by rfl) (hst : starEach (e :: es) X.env = (false, eval e X.env) :: starEach es X.env := by rfl) (hplain : (backTo cpos (starEach es X.env)).any (·.1) = false := by rfl) :
    LE X B (.Call (.Attribute o name apos) (e :: es) [] cpos) (lLm r3 to t) :=
  (pe_bm pa slot hty hm ho ha hbase hfew hline hst hplain).imp fun σ H Q ⟨Fz, tv, τ, G, Q3, hB, r, ht, k⟩ => emb.mk hB r ht fun v H1 Fz1 d G1 r1 h1 => by
    cases d with
    | ref p =>
      have h1' : (match G1 p with
        | some (.lst _) => t τ G1 fun ds G2 => (match G2 p with
          | some (.lst xs) => r3 p xs ds G2 Q3
          | _ => False)
        | _ => False) := h1
      have hv := r1.h1.inv_ref
      subst hv
      split at h1'
      · rename_i xs e
        obtain ⟨_, vs, ha, rk⟩ := r1.hr.go _ _ e
        refine ⟨.inl ⟨rfl, vs, SqL.of ha⟩, embA.mk (subB hB) r1 h1' fun ws H2 Fz2 ds G2 rs r2 h2 => ?_⟩
        have h2' : (match G2 p with
          | some (.lst xs) => r3 p xs ds G2 Q3
          | _ => False) := h2
        split at h2'
        · rename_i ys e2
          obtain ⟨_, us, hb, rk2⟩ := r2.hr.go _ _ e2
          exact hs r2.tl e2 hb rk2 rs h2' k
        · exact h2'.elim
      · exact h1'.elim
    | _ => exact h1.elim
theorem le_append {a : Expr} {ta : TE3} (ho : LE X B o to) (ha : LE X B a ta) (hs' : starEach [a] X.env = (false, eval a X.env) :: starEach [] X.env := by rfl)
    (hbase : attributeBase o "append" X.env (eval o X.env) = eval o X.env := by rfl)
    (hfew : ((backTo cpos (starEach [a] X.env)).all (fun x => !x.1) && (backToKw cpos (keywordEach [] X.env)).all (fun x => x.1.isSome)
      && decide (([a] : List Expr).length + ([] : List Keyword).length + (if ([] : List Keyword).isEmpty then 0 else 1) < 30)) = true := by rfl)
    (hline : (apos.endLine == cpos.line) = true := by rfl) : LE X B (.Call (.Attribute o "append" apos) [a] [] cpos) (lLm rApp3 to (lCons ta lNil)) :=
  le_lm PySem.F.slot_list_append PySem.F.type_list_append mt_append sim_app ho (la_cons ha la_nil hs') PySem.F.plainAttrs_list hbase hfew hline hs' rfl
end

/-! ### xs[i] = e -/
def gSub3 (to ti : TE3) : TG3 := fun y τ G Q => to τ G fun o G1 => ti τ G1 fun i G2 => match o, i with
  | .ref p, .int k => (match G2 p with
    | some (.lst xs) => ∃ j, ixN xs.length k = some j ∧ Q τ (gup G2 p (.lst (xs.set j y)))
    | _ => False)
  | _, _ => False
section
variable {X : Cx} {B : BT} {ms : List Nat} {o i : Expr} {to ti : TE3} {pos : Pos}
theorem lg_sub (ho : LE X B o to) (hi : LE X B i ti)
    (ha : ∀ v, assign (.Subscript o i pos) X.env v = (do
      let ov ← holding [v] (eval o X.env)
      let iv ← holding [v, ov] (eval i X.env)
      standAt pos
      holding [v, ov, iv] (setItem ov iv v)
      release [v, ov, iv] []) := by intro _; rfl) : LG X B ms (.Subscript o i pos) (gSub3 to ti) :=
  (pg_sub ho hi set_list ha).imp fun v σ H Q ⟨Fz, tv, τ, G, d, Q3, hB, r, rv, ht, k⟩ => emb.mk (subB (p := (v, d)) hB) (r.push rv) ht fun ov H1 Fz1 o' G1 r1 h1 => emb.mk (subB (subB hB)) r1 h1 fun iv H2 Fz2 i' G2 r2 h2 => by
    cases o' with
    | ref p =>
      cases i' with
      | int kk =>
        have h2' : (match G2 p with
          | some (.lst xs) => ∃ j, ixN xs.length kk = some j ∧ Q3 τ (gup G2 p (.lst (xs.set j d)))
          | _ => False) := h2
        split at h2'
        · rename_i xs e
          obtain ⟨_, vs, hH, rx⟩ := r2.hr.go _ _ e
          obtain ⟨j, hj, q⟩ := h2'
          have ew := Ext.wr (o := .lst (vs.set j v)) r2.hr e
          have hr3 := r2.hr.wr (o := .lst (vs.set j v)) (g := .lst (xs.set j d)) e ⟨_, upd_same, (rx.set (r2.tmp _ (List.mem_cons_of_mem _ (List.mem_cons_of_mem _ List.mem_cons_self))) j).ext ew⟩
          exact ⟨p, vs, kk, j, r2.h2.inv_ref, r2.h1.inv_int, hH, by rw [rx.len]; exact hj, k σ τ _ Fz2 _ (.refl _ _) (r2.tl.tl2.ext ew hr3) q⟩
        · exact h2'.elim
      | _ => exact h2.elim
    | _ => exact h2.elim
end
end L3
end

section
set_option Elab.async false
set_option linter.all false
set_option maxRecDepth 100000
set_option maxHeartbeats 4000000
/-! L3h: dicts, written dicts, calls of what a name holds, things that come to stand still within others, comprehensions with two fors. -/
namespace L3
open PySem PySem.Spec PyProof.Rows L2

/-! ### dicts -/
def keyD : D → Option Key
  | .int i => some (.inl i)
  | .str x => some (.inr x)
  | _ => none
def valD (kvs : List (Key × D)) (k : Key) : Option D := (kvs.find? fun kv => decide (kv.1 = k)).map (·.2)
def putKD (kvs : List (Key × D)) (k : Key) (v : D) : List (Key × D) :=
  if (kvs.any fun kv => decide (kv.1 = k)) = true then kvs.map (fun kv => if kv.1 = k then (kv.1, v) else kv) else kvs ++ [(k, v)]
section
variable {K : PySem.W.Frag} {Fz : Addr → Prop} {H : Hp}
theorem keyD_rep {v : V} {d : D} {k : Key} (r : Rep K Fz H v d) (e : keyD d = some k) : v = kV k := by
  cases d with
  | int i => cases Option.some.inj e; exact r.inv_int
  | str x => cases Option.some.inj e; exact r.inv_str
  | _ => cases e
theorem RepKs.val : ∀ {ds : List (Key × D)} {vs : List (Key × V)} (k : Key), RepKs K Fz H vs ds → (∀ d, valD ds k = some d → ∃ v, valV vs k = some v ∧ Rep K Fz H v d) ∧ (valD ds k = none → valV vs k = none)
  | [], vs, k, r => by rw [r.inv_nil]; exact ⟨fun d e => by simp [valD] at e, fun _ => rfl⟩
  | (k', d') :: ds, vs, k, r => by
    obtain ⟨v, ws, rfl, rv, rw'⟩ := r.inv_cons
    obtain ⟨i1, i2⟩ := RepKs.val k rw'
    by_cases e : k' = k
    · rw [valV_pos (p := (k', v)) e]
      have e2 : valD ((k', d') :: ds) k = some d' := by simp [valD, List.find?_cons, e]
      rw [e2]
      exact ⟨fun d h => ⟨v, rfl, by rw [← Option.some.inj h]; exact rv⟩, fun h => by cases h⟩
    · rw [valV_neg (p := (k', v)) e]
      have e2 : valD ((k', d') :: ds) k = valD ds k := by simp [valD, List.find?_cons, e]
      rw [e2]
      exact ⟨i1, i2⟩
theorem RepKs.append {κ : Type} : ∀ {ds es : List (κ × D)} {vs ws : List (κ × V)}, RepKs K Fz H vs ds → RepKs K Fz H ws es → RepKs K Fz H (vs ++ ws) (ds ++ es)
  | [], es, vs, ws, r, q => by rw [r.inv_nil]; exact q
  | (k, d) :: ds, es, vs, ws, r, q => by
    obtain ⟨v, us, rfl, rv, rw'⟩ := r.inv_cons
    exact .cons rv (RepKs.append rw' q)
theorem RepKs.mapK {k : Key} {v : V} {d : D} (rv : Rep K Fz H v d) : ∀ {ds : List (Key × D)} {vs : List (Key × V)}, RepKs K Fz H vs ds → RepKs K Fz H (vs.map (fun kv => if kv.1 = k then (kv.1, v) else kv)) (ds.map (fun kv => if kv.1 = k then (kv.1, d) else kv))
  | [], vs, r => by rw [r.inv_nil]; exact .nil
  | (k', d') :: ds, vs, r => by
    obtain ⟨u, us, rfl, ru, rw'⟩ := r.inv_cons
    rw [List.map_cons, List.map_cons]
    by_cases e : k' = k
    · rw [if_pos e, if_pos e]; exact .cons rv (RepKs.mapK rv rw')
    · rw [if_neg e, if_neg e]; exact .cons ru (RepKs.mapK rv rw')
theorem RepKs.anyK {k : Key} : ∀ {ds : List (Key × D)} {vs : List (Key × V)}, RepKs K Fz H vs ds → (vs.any fun kv => decide (kv.1 = k)) = (ds.any fun kv => decide (kv.1 = k))
  | [], vs, r => by rw [r.inv_nil]; rfl
  | (k', d') :: ds, vs, r => by
    obtain ⟨u, us, rfl, ru, rw'⟩ := r.inv_cons
    rw [List.any_cons, List.any_cons, RepKs.anyK rw']
theorem RepKs.put {k : Key} {v : V} {d : D} {ds : List (Key × D)} {vs : List (Key × V)} (r : RepKs K Fz H vs ds) (rv : Rep K Fz H v d) : RepKs K Fz H (putK vs k v) (putKD ds k d) := by
  unfold putK putKD
  rw [r.anyK]
  split
  · exact r.mapK rv
  · exact r.append (.cons rv .nil)
end
/-- {} -/
def lDNew : TE3 := fun _ G Q => ∀ p, G p = none → Q (.ref p) (gup G p (.dic []))
/-- d.get(k, x) -/
def lDGet2 (td ty tx : TE3) : TE3 := fun τ G Q => td τ G fun d G1 => (dicOf G1 d).isSome = true ∧ ty τ G1 fun y G2 => tx τ G2 fun z G3 => match dicOf G3 d, keyD y with
  | some kvs, some k => Q ((valD kvs k).getD z) G3
  | _, _ => False
def lDGet1 (td ty : TE3) : TE3 := fun τ G Q => td τ G fun d G1 => (dicOf G1 d).isSome = true ∧ ty τ G1 fun y G2 => match dicOf G2 d, keyD y with
  | some kvs, some k => Q ((valD kvs k).getD .non) G2
  | _, _ => False
/-- d.setdefault(k, x) -/
def lDSetd (td ty tx : TE3) : TE3 := fun τ G Q => td τ G fun d G1 => (dicOf G1 d).isSome = true ∧ ty τ G1 fun y G2 => tx τ G2 fun z G3 => match d with
  | .ref p => (match G3 p, keyD y with
    | some (.dic kvs), some k => kvs.length < sizeLine ∧ (match valD kvs k with
      | some v => Q v G3
      | none => Q z (gup G3 p (.dic (putKD kvs k z))))
    | _, _ => False)
  | _ => False
section
variable {X : Cx} {B : BT} {o e f : Expr} {apos cpos pos : Pos} {td ty tx : TE3}
theorem le_dnew : LE X B (.Dict [] [] pos) lDNew :=
  pe_dnewK.imp fun σ H Q ⟨Fz, tv, τ, G, Q3, hB, r, ht, k⟩ p hp => k _ _ (.mk (r.ext (Ext.newG r.hr hp) (r.hr.newG (g := .dic []) hp ⟨[], upd_same, .nil⟩)) (.ref p) (ht p (r.hr.free hp)))
theorem isD_of {K : PySem.W.Frag} {Fz : Addr → Prop} {H : Hp} {G : Gp} {v : V} {d : D} (h : HRel K Fz H G) (r : Rep K Fz H v d) (e : (dicOf G d).isSome = true) : ∃ a, v = .ref a ∧ IsD H a := by
  cases q : dicOf G d with
  | none => rw [q] at e; cases e
  | some kvs =>
    obtain ⟨a, vs, e1, h1, _⟩ := dic_at h r q
    exact ⟨a, e1, .inl ⟨vs, .inl h1⟩⟩
theorem le_dget2 (hu : X.A.units + 1 < cLine) (ho : LE X B o td) (he : LE X B e ty) (hf : LE X B f tx) (m : M2 X o "get" apos e f cpos := by exact ⟨rfl, rfl, rfl, rfl⟩) : LE X B (.Call (.Attribute o "get" apos) [e, f] [] cpos) (lDGet2 td ty tx) :=
  (pe_dget2 hu ho he hf m).imp fun σ H Q ⟨Fz, tv, τ, G, Q3, hB, r, ht, k⟩ => emb.mk hB r ht fun v H1 Fz1 d G1 r1 ⟨i1, h1⟩ => by
    obtain ⟨a, rfl, i2⟩ := isD_of r1.hr r1.h1 i1
    refine ⟨a, rfl, i2, emb.mk (subB hB) r1 h1 fun u H2 Fz2 y G2 r2 h2 => emb.mk (subB (subB hB)) r2 h2 fun w H3 Fz3 z G3 r3 h3 => ?_⟩
    have h3' : (match dicOf G3 d, keyD y with
      | some kvs, some k => Q3 ((valD kvs k).getD z) G3
      | _, _ => False) := h3
    split at h3'
    · rename_i kvs kk e1 e2
      obtain ⟨a', vs, ea, hH, rk⟩ := dic_at r3.hr (r3.tmp _ (List.mem_cons_of_mem _ (List.mem_cons_of_mem _ List.mem_cons_self))) e1
      cases ea
      refine ⟨_, .inl ⟨vs, kk, .inl hH, keyD_rep r3.h2 e2, rfl⟩, ?_⟩
      obtain ⟨i1, i2⟩ := rk.val kk
      cases q : valD kvs kk with
      | none =>
        rw [i2 q]
        rw [q] at h3'
        exact k _ H3 (.mk r3.tl.tl2 r3.h1 h3')
      | some d' =>
        obtain ⟨v', hv', rv'⟩ := i1 d' q
        rw [hv']
        rw [q] at h3'
        exact k _ H3 (.mk r3.tl.tl2 rv' h3')
    · exact h3'.elim
theorem le_dget1 (hu : X.A.units + 1 < cLine) (ho : LE X B o td) (he : LE X B e ty) (m : M1 X o "get" apos e cpos := by exact ⟨rfl, rfl, rfl, rfl⟩) : LE X B (.Call (.Attribute o "get" apos) [e] [] cpos) (lDGet1 td ty) :=
  (pe_dget1 hu ho he m).imp fun σ H Q ⟨Fz, tv, τ, G, Q3, hB, r, ht, k⟩ => emb.mk hB r ht fun v H1 Fz1 d G1 r1 ⟨i1, h1⟩ => by
    obtain ⟨a, rfl, i2⟩ := isD_of r1.hr r1.h1 i1
    refine ⟨a, rfl, i2, emb.mk (subB hB) r1 h1 fun u H2 Fz2 y G2 r2 h2 => ?_⟩
    have h3' : (match dicOf G2 d, keyD y with
      | some kvs, some k => Q3 ((valD kvs k).getD .non) G2
      | _, _ => False) := h2
    split at h3'
    · rename_i kvs kk e1 e2
      obtain ⟨a', vs, ea, hH, rk⟩ := dic_at r2.hr r2.h2 e1
      cases ea
      refine ⟨_, .inl ⟨vs, kk, .inl hH, keyD_rep r2.h1 e2, rfl⟩, ?_⟩
      obtain ⟨i1, i2⟩ := rk.val kk
      cases q : valD kvs kk with
      | none =>
        rw [i2 q]
        rw [q] at h3'
        exact k _ H2 (.mk r2.tl2 .non h3')
      | some d' =>
        obtain ⟨v', hv', rv'⟩ := i1 d' q
        rw [hv']
        rw [q] at h3'
        exact k _ H2 (.mk r2.tl2 rv' h3')
    · exact h3'.elim
theorem le_dsetd (ho : LE X B o td) (he : LE X B e ty) (hf : LE X B f tx) (m : M2 X o "setdefault" apos e f cpos := by exact ⟨rfl, rfl, rfl, rfl⟩) : LE X B (.Call (.Attribute o "setdefault" apos) [e, f] [] cpos) (lDSetd td ty tx) :=
  (pe_dsetd ho he hf m).imp fun σ H Q ⟨Fz, tv, τ, G, Q3, hB, r, ht, k⟩ => emb.mk hB r ht fun v H1 Fz1 d G1 r1 ⟨i1, h1⟩ => by
    obtain ⟨a, rfl, i2⟩ := isD_of r1.hr r1.h1 i1
    refine ⟨a, rfl, i2, emb.mk (subB hB) r1 h1 fun u H2 Fz2 y G2 r2 h2 => emb.mk (subB (subB hB)) r2 h2 fun w H3 Fz3 z G3 r3 h3 => ?_⟩
    cases d with
    | ref p =>
      have h3' : (match G3 p, keyD y with
        | some (.dic kvs), some k => kvs.length < sizeLine ∧ (match valD kvs k with
          | some v => Q3 v G3
          | none => Q3 z (gup G3 p (.dic (putKD kvs k z))))
        | _, _ => False) := h3
      have hv := (r3.tmp _ (List.mem_cons_of_mem _ (List.mem_cons_of_mem _ List.mem_cons_self))).inv_ref
      cases hv
      split at h3'
      · rename_i kvs kk e1 e2
        obtain ⟨_, vs, hH, rk⟩ := r3.hr.go _ _ e1
        obtain ⟨hl, q⟩ := h3'
        refine ⟨vs, kk, hH, keyD_rep r3.h2 e2, by rw [rk.len]; exact hl, fun v' hv' => ?_, fun hn => ?_⟩
        · obtain ⟨i1, i2⟩ := rk.val kk
          cases q1 : valD kvs kk with
          | none => rw [i2 q1] at hv'; cases hv'
          | some d' =>
            obtain ⟨v2, hv2, rv2⟩ := i1 d' q1
            rw [hv2] at hv'
            cases hv'
            rw [q1] at q
            exact k _ H3 (.mk r3.tl.tl2 rv2 q)
        · obtain ⟨i1, i2⟩ := rk.val kk
          cases q1 : valD kvs kk with
          | some d' =>
            obtain ⟨v2, hv2, rv2⟩ := i1 d' q1
            rw [hn] at hv2; cases hv2
          | none =>
            rw [q1] at q
            have ew := Ext.wr (o := .dK (putK vs kk w)) r3.hr e1
            have hr4 := r3.hr.wr (o := .dK (putK vs kk w)) (g := .dic (putKD kvs kk z)) e1 ⟨_, upd_same, (rk.put r3.h1).ext ew⟩
            exact k _ _ (.mk (r3.tl.tl2.ext ew hr4) (r3.h1.ext ew) q)
      · exact h3'.elim
    | _ => exact h3.elim
end

/-! ### a written dict of the module with text keys -/
structure KDs (K : PySem.W.Frag) (w : World) (p : Addr) (val : Str → Option D) : Prop where
  ex : ∃ es n, KDict K w p es n
  val : ∀ z, (PySem.W.nsIn K p z = some none ∧ val z = none) ∨ ∃ u0 v0 d, PySem.W.nsIn K p z = some (some u0) ∧ RelV v0 u0 ∧ val z = some d ∧ ∀ Fz H, Rep K Fz H v0 d
def rKdIn3 (p : Addr) (val : Str → Option D) : R3 := fun x y G Q => match x, y with
  | .str z, .ref q => q = p ∧ Q (.bl (val z).isSome) G
  | _, _ => False
def rKdNot3 (p : Addr) (val : Str → Option D) : R3 := fun x y G Q => match x, y with
  | .str z, .ref q => q = p ∧ Q (.bl !(val z).isSome) G
  | _, _ => False
def rKdIx3 (p : Addr) (val : Str → Option D) : R3 := fun x y G Q => match x, y with
  | .ref q, .str z => q = p ∧ (match val z with
    | some d => Q d G
    | none => False)
  | _, _ => False
section
variable {X : Cx} {B : BT} {a b : Expr} {pos : Pos} {ta tb : TE3} {p : Addr} {val : Str → Option D}
theorem KDs.opIn (k : KDs X.K X.w p val) : OpR X (compareOp .In) (fun x y H Q => ∃ (z : Str), x = .str z ∧ y = .ref p ∧ Q (.bl (val z).isSome) H) := by
  obtain ⟨⟨es, n, kd⟩, kv⟩ := k
  intro pins s σ H x y v u Q I rx ry ⟨z, e1, e2, q⟩
  refine op_in_kd kd pins s σ H x y v u Q I rx ry ?_
  rcases kv z with ⟨h, h'⟩ | ⟨u0, v0, d, h, h', h2, h3⟩
  · exact ⟨z, none, e1, e2, h, by rw [h'] at q; exact q⟩
  · exact ⟨z, some u0, e1, e2, h, by rw [h2] at q; exact q⟩
theorem KDs.opNot (k : KDs X.K X.w p val) : OpR X (compareOp .NotIn) (fun x y H Q => ∃ (z : Str), x = .str z ∧ y = .ref p ∧ Q (.bl !(val z).isSome) H) := by
  obtain ⟨⟨es, n, kd⟩, kv⟩ := k
  intro pins s σ H x y v u Q I rx ry ⟨z, e1, e2, q⟩
  refine op_notIn_kd kd pins s σ H x y v u Q I rx ry ?_
  rcases kv z with ⟨h, h'⟩ | ⟨u0, v0, d, h, h', h2, h3⟩
  · exact ⟨z, none, e1, e2, h, by rw [h'] at q; exact q⟩
  · exact ⟨z, some u0, e1, e2, h, by rw [h2] at q; exact q⟩
theorem simKdIn {K : PySem.W.Frag} : Sim2 K (fun x y H Q => ∃ (z : Str), x = .str z ∧ y = .ref p ∧ Q (.bl (val z).isSome) H) (rKdIn3 p val) := by
  intro Fz σ H tv τ G v u x y Q Q3 r h k
  cases x with
  | str z => cases y with
    | ref q => exact ⟨z, r.h2.inv_str, by rw [r.h1.inv_ref, h.1], k _ H (.mk r.tl2 (.bl _) h.2)⟩
    | _ => exact h.elim
  | _ => exact h.elim
theorem simKdNot {K : PySem.W.Frag} : Sim2 K (fun x y H Q => ∃ (z : Str), x = .str z ∧ y = .ref p ∧ Q (.bl !(val z).isSome) H) (rKdNot3 p val) := by
  intro Fz σ H tv τ G v u x y Q Q3 r h k
  cases x with
  | str z => cases y with
    | ref q => exact ⟨z, r.h2.inv_str, by rw [r.h1.inv_ref, h.1], k _ H (.mk r.tl2 (.bl _) h.2)⟩
    | _ => exact h.elim
  | _ => exact h.elim
theorem le_kdix (kd : KDs X.K X.w p val) (ha : LE X B a ta) (hb : LE X B b tb) (hs : PlainIx b := by exact fun _ _ => rfl) : LE X B (.Subscript a b pos) (lOp (rKdIx3 p val) ta tb) :=
  (pe_ix ix_kdict ha hb hs).imp fun σ H Q ⟨Fz, tv, τ, G, Q3, hB, r, ht, k⟩ => emb.mk hB r ht fun v H1 Fz1 x G1 r1 h1 => emb.mk (subB hB) r1 h1 fun u H2 Fz2 y G2 r2 h2 => by
    cases x with
    | ref q => cases y with
      | str z =>
        obtain ⟨e, h5⟩ := (show q = p ∧ (match val z with
          | some d => Q3 d G2
          | none => False) from h2)
        subst e
        obtain ⟨⟨es, n, kk⟩, kv⟩ := kd
        rcases kv z with ⟨h, h'⟩ | ⟨u0, v0, d, h, h', h3, h4⟩
        · rw [h'] at h5; exact h5.elim
        · rw [h3] at h5
          exact ⟨q, z, v0, r2.h2.inv_ref, r2.h1.inv_str, ⟨es, n, u0, kk.at_, kk.lit, h, h'⟩, k _ H2 (.mk r2.tl2 (h4 _ _) h5)⟩
      | _ => exact h2.elim
    | _ => exact h2.elim
end

/-! ### a call of a name that holds one of several defs -/
structure Held3 (P : Program) (w : World) (K : PySem.W.Frag) (mg : Str → Option Value) (base : Heap) (k : Nat) (f : Addr) (sp : Sp3) : Prop where
  ex : ∃ (fd : FuncData) (ps : List Str), FnOk P w K mg base CX0 k f fd ps (low K sp) ∧ PySem.W.keepIn K (.ref f) = true ∧ Binds K fd ps []
def lCallA (i : Nat) (S : Addr → Option Sp3) (t : TA3) : TE3 := fun τ G Q => match τ[i]? with
  | some (some (.ref f)) => (match S f with
    | some sp => t τ G fun ds G1 => sp ds G1 Q
    | none => False)
  | _ => False
section
variable {X : Cx} {B : BT} {e : Expr} {es : List Expr} {t : TA3} {x : Str} {k i : Nat} {p pos : Pos}
theorem le_callA (i : Nat) {S : Addr → Option Sp3} (A : ∀ f sp, S f = some sp → Held3 X.prog X.w X.K X.mg X.base k f sp) (hr : Room k X.A) (ha : LA X B (e :: es) t) (hN : X.N[i]? = some x := by rfl) (hv : Vis X.env.scope x := by first | exact Or.inl rfl | exact Or.inr (Or.inl rfl) | exact Or.inr (Or.inr rfl))
    (hdb : (x == ("__debug__" : Str)) = false := by decide) (hcd : (x == ("__classdict__" : Str)) = false := by decide)
    (he : starEach (e :: es) X.env = (false, eval e X.env) :: starEach es X.env := by rfl) (hpl : (backTo pos (starEach es X.env)).any (·.1) = false := by rfl) : LE X B (.Call (.Name x p) (e :: es) [] pos) (lCallA i S t) :=
  (pe_callA (k := k) (S := fun f => (S f).map (low X.K)) (fun f sp h => by
    cases q : S f with
    | none => rw [q] at h; cases h
    | some s3 =>
      rw [q] at h
      cases Option.some.inj h
      obtain ⟨fd, ps, F, kp, b⟩ := (A f s3 q).ex
      exact ⟨fd, ps, F, kp, b⟩) hr hN hv ha hdb hcd he hpl).imp fun σ H Q ⟨Fz, tv, τ, G, Q3, hB, r, ht, kk⟩ => by
    unfold lCallA at ht
    split at ht
    · rename_i f e1
      split at ht
      · rename_i sp e2
        obtain ⟨v, hv, rv⟩ := r.slot i _ e1
        cases rv.inv_ref
        exact ⟨f, low X.K sp, hv, by show Option.map (low X.K) (S f) = _; rw [e2]; rfl, embA.mk hB r ht fun vs H1 Fz1 ds G1 rs r1 h1 => low_of r1 rs h1 kk⟩
      · exact ht.elim
    · exact ht.elim
end

/-! ### things that come to stand still, within others -/
def subD (p : Addr) (d : D) : D → D
  | .ref q => if q = p then d else .ref q
  | x => x
def subGO (p : Addr) (d : D) : GO → GO
  | .lst xs => .lst (xs.map (subD p d))
  | .dic kvs => .dic (kvs.map fun kv => (kv.1, subD p d kv.2))
  | .ins C fs => .ins C (fs.map fun kv => (kv.1, subD p d kv.2))
  | .xd fs => .xd (fs.map fun kv => (kv.1, subD p d kv.2))
  | .raw o => .raw o
def toD : GO → Option D
  | .lst xs => some (.lst xs)
  | .dic kvs => some (.dic kvs)
  | .ins C fs => some (.ins C fs)
  | .xd _ => none
  | .raw _ => none
inductive Frz : Gp → Gp → Prop where
  | refl (G : Gp) : Frz G G
  | into {G G' : Gp} (p q : Addr) (o u : GO) (d : D) (hp : G p = some o) (hd : toD o = some d) (hq : G q = some u) (hne : q ≠ p) (next : Frz (gup (gdel G p) q (subGO p d u)) G') : Frz G G'
  | drop {G G' : Gp} (p : Addr) (next : Frz (gdel G p) G') : Frz G G'
section
variable {K : PySem.W.Frag} {Fz : Addr → Prop} {H : Hp} {G : Gp}
theorem subD_rep {p : Addr} {d x : D} {v : V} (rp : Rep K Fz H (.ref p) d) (r : Rep K Fz H v x) : Rep K Fz H v (subD p d x) := by
  cases x with
  | ref q =>
    show Rep K Fz H v (if q = p then d else .ref q)
    split
    · rename_i e; rw [r.inv_ref, e]; exact rp
    · exact r
  | _ => exact r
theorem subD_reps {p : Addr} {d : D} (rp : Rep K Fz H (.ref p) d) : ∀ {xs : List D} {vs : List V}, Reps K Fz H vs xs → Reps K Fz H vs (xs.map (subD p d))
  | [], vs, r => by rw [r.inv_nil]; exact .nil
  | x :: xs, vs, r => by
    obtain ⟨v, ws, rfl, rv, rw'⟩ := r.inv_cons
    exact .cons (subD_rep rp rv) (subD_reps rp rw')
theorem subD_repKs {κ : Type} {p : Addr} {d : D} (rp : Rep K Fz H (.ref p) d) : ∀ {xs : List (κ × D)} {vs : List (κ × V)}, RepKs K Fz H vs xs → RepKs K Fz H vs (xs.map fun kv => (kv.1, subD p d kv.2))
  | [], vs, r => by rw [r.inv_nil]; exact .nil
  | (k, x) :: xs, vs, r => by
    obtain ⟨v, ws, rfl, rv, rw'⟩ := r.inv_cons
    exact .cons (subD_rep rp rv) (subD_repKs rp rw')
theorem toD_rep {p : Addr} {o : GO} {d : D} (h : HRel K Fz H G) (hp : G p = some o) (hd : toD o = some d) : Rep K (fzup Fz p) H (.ref p) d := by
  obtain ⟨f1, f2, f3⟩ := frz_rep (p := p) h
  cases o with
  | lst ds => cases Option.some.inj hd; exact f1 _ hp
  | dic ds => cases Option.some.inj hd; exact f2 _ hp
  | ins C ds => cases Option.some.inj hd; exact f3 _ _ hp
  | xd ds => cases hd
  | raw o => cases hd
theorem HRel.frzIn {p q : Addr} {o u : GO} {d : D} (h : HRel K Fz H G) (hp : G p = some o) (hd : toD o = some d) (hq : G q = some u) (hne : q ≠ p) : HRel K (fzup Fz p) H (gup (gdel G p) q (subGO p d u)) := by
  have rp := toD_rep h hp hd
  have h2 := h.frz hp
  have hq2 : gdel G p q = some u := by rw [gdel_ne hne]; exact hq
  refine ⟨fun a g e => ?_, h2.fz⟩
  by_cases ea : a = q
  · subst ea
    rw [gup_same] at e
    cases Option.some.inj e
    obtain ⟨n, gr⟩ := h2.go _ _ hq2
    refine ⟨n, ?_⟩
    cases u with
    | lst ds => obtain ⟨vs, h1, h2⟩ := gr; exact ⟨vs, h1, subD_reps rp h2⟩
    | dic ds => obtain ⟨vs, h1, h2⟩ := gr; exact ⟨vs, h1, subD_repKs rp h2⟩
    | ins C ds => obtain ⟨dx, vs, h1, h2⟩ := gr; exact ⟨dx, vs, h1, subD_repKs rp h2⟩
    | xd ds => obtain ⟨vs, h1, h2⟩ := gr; exact ⟨vs, h1, subD_repKs rp h2⟩
    | raw o => exact gr
  · rw [gup_ne ea] at e
    exact h2.go a g e
theorem Rel.frzs {G' : Gp} {tv : BT} {τ : T3} {σ : L2.St} (f : Frz G G') : ∀ {Fz : Addr → Prop}, Rel K tv τ G Fz σ H → ∃ Fz', Rel K tv τ G' Fz' σ H := by
  induction f with
  | refl G => exact fun r => ⟨_, r⟩
  | into p q o u d hp hd hq hne next ih => exact fun r => ih (r.ext Ext.frz (r.hr.frzIn hp hd hq hne))
  | drop p next ih => exact fun r => ih ⟨r.len, r.slot, r.tmp, r.hr.less⟩
end
def sGh (t : TS3) : TS3 := fun D τ G => ∃ G', Frz G G' ∧ t D τ G'
theorem lb_gh {X : Cx} {B : BT} {sts : List Stmt} {t : TS3} (h : LB X B sts t) : LB X B sts (sGh t) :=
  h.imp fun D σ H ⟨Fz, tv, τ, G, D3, hB, r, ⟨G', f, ht⟩, k⟩ => by
    obtain ⟨Fz', r'⟩ := r.frzs f
    exact ⟨Fz', tv, τ, G', D3, hB, r', ht, k⟩
end L3
end

section
set_option Elab.async false
set_option linter.all false
set_option maxRecDepth 100000
set_option maxHeartbeats 4000000
/-! L3i: comprehensions whose list may change; with two fors; zip of tuples. -/
namespace L3
open PySem PySem.Spec PyProof.Rows L2

def lLcG (li : TI3) (g : TG3) (tt : TT3) (te : TE3) (vs : List Nat) : TE3 := fun τ G Q => li τ G fun ds G1 => ∀ p, G1 p = none → ∃ W : Nat → List D → Gp → Prop, W 0 [] (gup G1 p (.lst [])) ∧
  (∀ i d acc G, ds[i]? = some d → W i acc G → g d (wipe3 τ vs) G fun τ2 G2 => tt τ2 G2 fun b G3 => if b = true then te τ2 G3 fun y G4 => G4 p = some (.lst acc) ∧ acc.length < sizeLine ∧ W (i + 1) (acc ++ [y]) (gup G4 p (.lst (acc ++ [y]))) else W (i + 1) acc G3) ∧
  ∀ acc G, W ds.length acc G → G p = some (.lst acc) ∧ Q (.ref p) G
section
variable {X : Cx} {B : BT} {tg e : Expr} {pos : Pos}
theorem tLcG_of {li : TI3} {g : TG3} {tt : TT3} {te : TE3} {vs ms : List Nat} (hms : ∀ i ∈ ms, i ∈ vs) {σ : L2.St} {H : Hp} {Q : VK} (h : emb X.K B (lLcG li g tt te vs) σ H Q) :
    tLc (embI X.K B li) (embG X.K B ms g) (embT X.K B tt) (emb X.K B te) vs σ H Q := by
  obtain ⟨Fz, tv, τ, G, Q3, hB, r, ht, k⟩ := h
  refine ⟨Fz, tv, τ, G, _, hB, r, ht, fun J H1 Fz1 tv1 ds G1 hsub r1 S h1 L hL => ?_⟩
  obtain ⟨W, w0, step, done⟩ := h1 L (r1.hr.free hL)
  have r0 := r1.ext (Ext.newG r1.hr hL) (r1.hr.newG (g := .lst []) hL ⟨[], upd_same, .nil⟩)
  let tvx := slotsL σ τ ++ tv1
  refine ⟨fun i m H => m = ds.length - i ∧ i ≤ ds.length ∧ ∃ acc Fz G, HRel X.K Fz H G ∧ (∀ p ∈ tvx, Rep X.K Fz H p.1 p.2) ∧ W i acc G,
    ⟨ds.length, by simp, Nat.zero_le _, [], _, _, r0.hr, fun p hp => (List.mem_append.mp hp).elim (r0.slots_rep p) (r0.tmp p), w0⟩, ?_⟩
  rintro i m H ⟨rfl, hi, acc, Fz2, G2, hr2, hx2, w2⟩
  have hS : Rel X.K tvx τ G2 Fz2 σ H := r1.again hr2 (fun p hp => hx2 p (List.mem_append_left _ hp)) (fun p hp => hx2 p (List.mem_append_right _ hp)) |>.slots r1.len (fun i d e => by
    obtain ⟨v, hv, _⟩ := r1.slot i d e
    exact ⟨v, hv, hx2 _ (List.mem_append_left _ (slots_in hv e))⟩) |> fun z => ⟨z.len, z.slot, hx2, hr2⟩
  have Sx := S.mono (tv' := tvx) fun p hp => List.mem_append_right _ hp
  have hBx : ∀ p ∈ B, p ∈ tvx := fun p hp => List.mem_append_right _ (hsub p (hB p hp))
  by_cases hlt : i < ds.length
  · refine .inr ⟨Sx.go hS hlt, fun H' => ∃ acc Fz G, HRel X.K Fz H' G ∧ (∀ p ∈ tvx, Rep X.K Fz H' p.1 p.2) ∧ W (i + 1) acc G, fun H' p' => ⟨ds.length - (i + 1), by omega, rfl, hlt, p'⟩, fun x H' y => ?_⟩
    have hd : ds[i]? = some ds[i] := by simp [hlt]
    obtain ⟨Fz3, r3⟩ := Sx.yld hS hd y
    refine ⟨Fz3, tvx, wipe3 τ vs, G2, ds[i], _, hBx, r3.tl.wiped vs, r3.h1, step i _ acc G2 hd w2, fun σ' τ' G' Fz' H' o' r' q => ⟨wipe_out3 o' hms, ?_⟩⟩
    refine embT.mk hBx r' q fun b H4 Fz4 G4 r4 q4 => ?_
    cases b with
    | true =>
      simp only [if_true] at q4 ⊢
      refine emb.mk hBx r4 q4 fun v H5 Fz5 d G5 r5 q5 => ?_
      obtain ⟨e1, e2, e3⟩ := q5
      obtain ⟨_, ws, h1, h2⟩ := r5.hr.go _ _ e1
      have hl : ws.length = acc.length := h2.len
      have hr6 := r5.hr.wr (o := .lst (ws ++ [v])) (g := .lst (acc ++ [d])) e1 ⟨_, upd_same, (h2.append (.one r5.h1)).ext (Ext.wr r5.hr e1)⟩
      exact ⟨ws, h1, by rw [hl]; exact e2, _, Fz5, _, hr6, fun p hp => (r5.tl.tmp p hp).ext (Ext.wr r5.hr e1), e3⟩
    | false =>
      simp only [Bool.false_eq_true, if_false] at q4 ⊢
      exact ⟨acc, Fz4, G4, r4.hr, r4.tmp, q4⟩
  · have e : i = ds.length := by omega
    subst e
    obtain ⟨e1, e2⟩ := done acc G2 w2
    exact .inl ⟨Sx.stop hS (Nat.le_refl _), k _ H (.mk (hS.sub fun p hp => List.mem_append_right _ (hsub p hp)) (.ref L) e2)⟩
theorem ls_setLcG (i : Nat) {y : Str} {py spos : Pos} {elt : Expr} {ifs : List Expr} {scope : Scope} {li : TI3} {g : TG3} {tt : TT3} {te : TE3} {ms : List Nat} (own : List (Str × Nat)) (hc : X.calm = true) (hN : X.N.Nodup) (hi : LI X B tg e li) (ok : BlkOk X.N X.env.scope scope own)
    (hg : ∀ (s : Shared) (H : Hp) (C : Addr) (cl : List (Str × Addr)) (fp : List Addr), LG (X.blk s H scope (compEnvC scope cl C X.env) fp) B ms tg g) (ht : ∀ (s : Shared) (H : Hp) (C : Addr) (cl : List (Str × Addr)) (fp : List Addr), LTs (X.blk s H scope (compEnvC scope cl C X.env) fp) B ifs tt)
    (he : ∀ (s : Shared) (H : Hp) (C : Addr) (cl : List (Str × Addr)) (fp : List Addr), LE (X.blk s H scope (compEnvC scope cl C X.env) fp) B elt te)
    (hsw : swapsWith (.ListComp elt [⟨tg, e, ifs, 0⟩] scope pos) (some (.Name y py)) spos.line X.env = pure true) (hy : X.N[i]? = some y := by rfl) (hyl : X.env.scope.names.lookup y = some .local := by rfl)
    (hms : ∀ i ∈ ms, i ∈ own.map (·.2) := by decide) (hs : ∀ x, foldedSetIterable e X.env x = pure x := by intro _; rfl) :
    LS X B (.Assign [.Name y py] (.ListComp elt [⟨tg, e, ifs, 0⟩] scope pos) spos) (sAsg (lLcG li g tt te (own.map (·.2))) (gName3 i)) :=
  (ps_setLc hc hN hy hyl hsw hi ok hg (fun s H C cl fp => (ht s H C cl fp).run) he hs).imp fun D σ H ⟨Fz, tv, τ, G, D3, hB, r, ht, k⟩ => tLcG_of hms ⟨Fz, tv, τ, G, _, hB, r, ht, fun v H' ⟨Fz', d, G', r', q⟩ => k.nx _ _ G' Fz' H' (r'.tl.set r'.h1 i) q⟩

/-! ### two fors -/
def lLc2 (li : TI3) (g : TG3) (tt : TT3) (li1 : TI3) (g1 : TG3) (tt1 : TT3) (te : TE3) (vs vs1 : List Nat) : TE3 := fun τ G Q => li τ G fun ds G1 => ∀ p, G1 p = none → ∃ W : Nat → List D → Gp → Prop, W 0 [] (gup G1 p (.lst [])) ∧
  (∀ i d acc G, ds[i]? = some d → W i acc G → g d (wipe3 τ vs) G fun τ2 G2 => tt τ2 G2 fun b G3 => if b = true then li1 τ2 G3 fun es G4 => ∃ W1 : Nat → List D → Gp → Prop, W1 0 acc G4 ∧
      (∀ j e acc G, es[j]? = some e → W1 j acc G → g1 e (wipe3 τ2 vs1) G fun τ3 G5 => tt1 τ3 G5 fun b G6 => if b = true then te τ3 G6 fun y G7 => G7 p = some (.lst acc) ∧ acc.length < sizeLine ∧ W1 (j + 1) (acc ++ [y]) (gup G7 p (.lst (acc ++ [y]))) else W1 (j + 1) acc G6) ∧
      ∀ acc G, W1 es.length acc G → W (i + 1) acc G
    else W (i + 1) acc G3) ∧
  ∀ acc G, W ds.length acc G → G p = some (.lst acc) ∧ Q (.lst acc) (gdel G p)
theorem tLc2_of {li li1 : TI3} {g g1 : TG3} {tt tt1 : TT3} {te : TE3} {vs vs1 ms ms1 : List Nat} (hms : ∀ i ∈ ms, i ∈ vs) (hms1 : ∀ i ∈ ms1, i ∈ vs1) {σ : L2.St} {H : Hp} {Q : VK} (h : emb X.K B (lLc2 li g tt li1 g1 tt1 te vs vs1) σ H Q) :
    tLc2 (embI X.K B li) (embG X.K B ms g) (embT X.K B tt) (embI X.K B li1) (embG X.K B ms1 g1) (embT X.K B tt1) (emb X.K B te) vs vs1 σ H Q := by
  obtain ⟨Fz, tv, τ, G, Q3, hB, r, ht, k⟩ := h
  refine ⟨Fz, tv, τ, G, _, hB, r, ht, fun J H1 Fz1 tv1 ds G1 hsub r1 S h1 L hL => ?_⟩
  obtain ⟨W, w0, step, done⟩ := h1 L (r1.hr.free hL)
  have r0 := r1.ext (Ext.newG r1.hr hL) (r1.hr.newG (g := .lst []) hL ⟨[], upd_same, .nil⟩)
  let tvx := slotsL σ τ ++ tv1
  refine ⟨fun i m H => m = ds.length - i ∧ i ≤ ds.length ∧ ∃ acc Fz G, HRel X.K Fz H G ∧ (∀ p ∈ tvx, Rep X.K Fz H p.1 p.2) ∧ W i acc G,
    ⟨ds.length, by simp, Nat.zero_le _, [], _, _, r0.hr, fun p hp => (List.mem_append.mp hp).elim (r0.slots_rep p) (r0.tmp p), w0⟩, ?_⟩
  rintro i m H ⟨rfl, hi, acc, Fz2, G2, hr2, hx2, w2⟩
  have hS : Rel X.K tvx τ G2 Fz2 σ H := r1.again hr2 (fun p hp => hx2 p (List.mem_append_left _ hp)) (fun p hp => hx2 p (List.mem_append_right _ hp)) |>.slots r1.len (fun i d e => by
    obtain ⟨v, hv, _⟩ := r1.slot i d e
    exact ⟨v, hv, hx2 _ (List.mem_append_left _ (slots_in hv e))⟩) |> fun z => ⟨z.len, z.slot, hx2, hr2⟩
  have Sx := S.mono (tv' := tvx) fun p hp => List.mem_append_right _ hp
  have hBx : ∀ p ∈ B, p ∈ tvx := fun p hp => List.mem_append_right _ (hsub p (hB p hp))
  by_cases hlt : i < ds.length
  · refine .inr ⟨Sx.go hS hlt, fun H' => ∃ acc Fz G, HRel X.K Fz H' G ∧ (∀ p ∈ tvx, Rep X.K Fz H' p.1 p.2) ∧ W (i + 1) acc G, fun H' p' => ⟨ds.length - (i + 1), by omega, rfl, hlt, p'⟩, fun x H' y => ?_⟩
    have hd : ds[i]? = some ds[i] := by simp [hlt]
    obtain ⟨Fz3, r3⟩ := Sx.yld hS hd y
    refine ⟨Fz3, tvx, wipe3 τ vs, G2, ds[i], _, hBx, r3.tl.wiped vs, r3.h1, step i _ acc G2 hd w2, fun σ2 τ2 G' Fz' H' o' r' q => ⟨wipe_out3 o' hms, ?_⟩⟩
    refine embT.mk hBx r' q fun b H4 Fz4 G4 r4 q4 => ?_
    cases b with
    | true =>
      simp only [if_true] at q4 ⊢
      refine ⟨Fz4, tvx, τ2, G4, _, hBx, r4, q4, fun J1 H5 Fz5 tv2 es G5 hsub2 r5 S1 h5 => ?_⟩
      obtain ⟨W1, w10, step1, done1⟩ := h5
      let tvy := slotsL σ2 τ2 ++ tv2
      have hxy : ∀ p ∈ tvx, p ∈ tvy := fun p hp => List.mem_append_right _ (hsub2 p hp)
      have hBy : ∀ p ∈ B, p ∈ tvy := fun p hp => hxy p (hBx p hp)
      refine ⟨fun j m H => m = es.length - j ∧ j ≤ es.length ∧ ∃ acc Fz G, HRel X.K Fz H G ∧ (∀ p ∈ tvy, Rep X.K Fz H p.1 p.2) ∧ W1 j acc G,
        ⟨es.length, by simp, Nat.zero_le _, acc, _, _, r5.hr, fun p hp => (List.mem_append.mp hp).elim (r5.slots_rep p) (r5.tmp p), w10⟩, ?_⟩
      rintro j m H ⟨rfl, hj, acc', Fz6, G6, hr6, hx6, w6⟩
      have hS1 : Rel X.K tvy τ2 G6 Fz6 σ2 H := r5.again hr6 (fun p hp => hx6 p (List.mem_append_left _ hp)) (fun p hp => hx6 p (List.mem_append_right _ hp)) |>.slots r5.len (fun i d e => by
        obtain ⟨v, hv, _⟩ := r5.slot i d e
        exact ⟨v, hv, hx6 _ (List.mem_append_left _ (slots_in hv e))⟩) |> fun z => ⟨z.len, z.slot, hx6, hr6⟩
      have Sy := S1.mono (tv' := tvy) fun p hp => List.mem_append_right _ hp
      by_cases hlt1 : j < es.length
      · refine .inr ⟨Sy.go hS1 hlt1, fun H' => ∃ acc Fz G, HRel X.K Fz H' G ∧ (∀ p ∈ tvy, Rep X.K Fz H' p.1 p.2) ∧ W1 (j + 1) acc G, fun H' p' => ⟨es.length - (j + 1), by omega, rfl, hlt1, p'⟩, fun x H' y => ?_⟩
        have he : es[j]? = some es[j] := by simp [hlt1]
        obtain ⟨Fz7, r7⟩ := Sy.yld hS1 he y
        refine ⟨Fz7, tvy, wipe3 τ2 vs1, G6, es[j], _, hBy, r7.tl.wiped vs1, r7.h1, step1 j _ acc' G6 he w6, fun σ3 τ3 G8 Fz8 H8 o8 r8 q8 => ⟨wipe_out3 o8 hms1, ?_⟩⟩
        refine embT.mk hBy r8 q8 fun b H9 Fz9 G9 r9 q9 => ?_
        cases b with
        | true =>
          simp only [if_true] at q9 ⊢
          refine emb.mk hBy r9 q9 fun v H10 Fz10 d G10 r10 q10 => ?_
          obtain ⟨e1, e2, e3⟩ := q10
          obtain ⟨_, ws, h1, h2⟩ := r10.hr.go _ _ e1
          have hl : ws.length = acc'.length := h2.len
          have hr11 := r10.hr.wr (o := .lst (ws ++ [v])) (g := .lst (acc' ++ [d])) e1 ⟨_, upd_same, (h2.append (.one r10.h1)).ext (Ext.wr r10.hr e1)⟩
          exact ⟨ws, h1, by rw [hl]; exact e2, _, Fz10, _, hr11, fun p hp => (r10.tl.tmp p hp).ext (Ext.wr r10.hr e1), e3⟩
        | false =>
          simp only [Bool.false_eq_true, if_false] at q9 ⊢
          exact ⟨acc', Fz9, G9, r9.hr, r9.tmp, q9⟩
      · have e : j = es.length := by omega
        subst e
        exact .inl ⟨Sy.stop hS1 (Nat.le_refl _), acc', Fz6, G6, hr6, fun p hp => hx6 p (hxy p hp), done1 acc' G6 w6⟩
    | false =>
      simp only [Bool.false_eq_true, if_false] at q4 ⊢
      exact ⟨acc, Fz4, G4, r4.hr, r4.tmp, q4⟩
  · have e : i = ds.length := by omega
    subst e
    obtain ⟨e1, e2⟩ := done acc G2 w2
    refine .inl ⟨Sx.stop hS (Nat.le_refl _), ?_⟩
    have r4 : Rel X.K tv τ (gdel G2 L) (fzup Fz2 L) σ H := (hS.sub fun p hp => List.mem_append_right _ (hsub p hp)).ext Ext.frz (hS.hr.frz e1)
    exact k _ H (.mk r4 ((frz_rep hS.hr).1 acc e1) e2)
theorem le_lc2 {elt tg1 e1 : Expr} {ifs ifs1 : List Expr} {scope : Scope} {li li1 : TI3} {g g1 : TG3} {tt tt1 : TT3} {te : TE3} {ms ms1 : List Nat} (own : List (Str × Nat)) (vs1 : List Nat) (hc : X.calm = true) (hN : X.N.Nodup) (hi : LI X B tg e li) (ok : BlkOk X.N X.env.scope scope own)
    (hg : ∀ (s : Shared) (H : Hp) (C : Addr) (cl : List (Str × Addr)) (fp : List Addr), LG (X.blk s H scope (compEnvC scope cl C X.env) fp) B ms tg g) (ht : ∀ (s : Shared) (H : Hp) (C : Addr) (cl : List (Str × Addr)) (fp : List Addr), LTs (X.blk s H scope (compEnvC scope cl C X.env) fp) B ifs tt)
    (hi1 : ∀ (s : Shared) (H : Hp) (C : Addr) (cl : List (Str × Addr)) (fp : List Addr), LI (X.blk s H scope (compEnvC scope cl C X.env) fp) B tg1 e1 li1)
    (hg1 : ∀ (s : Shared) (H : Hp) (C : Addr) (cl : List (Str × Addr)) (fp : List Addr), LG (X.blk s H scope (compEnvC scope cl C X.env) fp) B ms1 tg1 g1) (ht1 : ∀ (s : Shared) (H : Hp) (C : Addr) (cl : List (Str × Addr)) (fp : List Addr), LTs (X.blk s H scope (compEnvC scope cl C X.env) fp) B ifs1 tt1)
    (he : ∀ (s : Shared) (H : Hp) (C : Addr) (cl : List (Str × Addr)) (fp : List Addr), LE (X.blk s H scope (compEnvC scope cl C X.env) fp) B elt te)
    (hv : ∀ i ∈ vs1, i ∈ own.map (·.2) := by decide) (hms : ∀ i ∈ ms, i ∈ own.map (·.2) := by decide) (hms1 : ∀ i ∈ ms1, i ∈ vs1 := by decide) (hs : ∀ x, foldedSetIterable e X.env x = pure x := by intro _; rfl) (hs1 : ∀ env x, foldedSetIterable e1 env x = pure x := by intro _ _; rfl) :
    LE X B (.ListComp elt [⟨tg, e, ifs, 0⟩, ⟨tg1, e1, ifs1, 0⟩] scope pos) (lLc2 li g tt li1 g1 tt1 te (own.map (·.2)) vs1) :=
  (pe_lc2 hc hN hi ok hv hg (fun s H C cl fp => (ht s H C cl fp).run) hi1 hg1 (fun s H C cl fp => (ht1 s H C cl fp).run) he hs hs1).imp fun _ _ _ h => tLc2_of hms hms1 h
end
end L3
end

section
set_option Elab.async false
set_option linter.all false
set_option maxRecDepth 100000
set_option maxHeartbeats 4000000
/-! L3z: zip(x, y, strict=True) of two tuples of one length. -/
namespace LZ
open PySem RZ
open PySem.Sem (wp)
abbrev IsZipS (h : Heap) (z TI TO : Addr) (f0 : Value) : Prop :=
  h.get? z = some { cls := .type "zip", dict := none, data := .fields #[f0, .bool false, .bool true, .ref TI, .ref TO], slots := #[] }
theorem typeCall_zipS (a b : Value) : checkTypeCall "zip" ⟨[a, b], [(Str.ofString "strict", .bool true)]⟩ = pure () := by kernel_rfl
theorem newCall_zipS (a b : Value) : checkBuiltinCall "zip.__new__" ⟨[.type "zip", a, b], [(Str.ofString "strict", .bool true)]⟩ = pure () := by kernel_rfl
theorem args_object_init_zipS (obj a b : Value) : argsOk "object.__init__" ⟨[obj, a, b], [(Str.ofString "strict", .bool true)]⟩ := by unfold argsOk; kernel_rfl
abbrev zipSH5 (h : Heap) (l1 l2 : Addr) : Heap := (zipTH4 h l1 l2).push { cls := .type "zip", data := .fields #[.none, .bool false, .bool true, .ref (zipTH2 h l1 l2).objs.size, .ref (zipTH3 h l1 l2).objs.size] }
theorem meets_zipS_new (l1 l2 : Addr) (xs ys : Array Value) :
    Meets (Builtin.«zip.__new__» ⟨[.type "zip", .ref l1, .ref l2], [(Str.ofString "strict", .bool true)]⟩) (fun _ R s => s.heap.IsTuple l1 xs ∧ s.heap.IsTuple l2 ys ∧
      R (.ok (.ret (.ref (zipTH4 s.heap l1 l2).objs.size))) { s with heap := zipSH5 s.heap l1 l2 }) :=
  .of_wp fun prog w A R s h => by
    obtain ⟨hp, g, d, tk, os⟩ := s; obtain ⟨hl1, hl2, h⟩ := h
    have hsub := sub_zip
    have e1 : (Str.ofString "strict" == ("strict" : Str)) = true := by decide +kernel
    have e2 : (Str.ofString "strict" != ("strict" : Str)) = false := by decide +kernel
    have hL1 : Heap.IsTuple (Shared.heap ⟨hp, g, d, tk, os⟩) l1 xs := hl1
    have hL2 : Heap.IsTuple (Shared.heap ⟨hp.push { cls := .type "tuple_iterator", data := .fields #[.ref l1, .int 0 0] }, g, d, tk, os⟩) l2 ys := Heap.IsTuple.push hl2 _
    wp_walk using wpAny_pyIter_tuple hL1, wpAny_pyIter_tuple hL2
    exact ⟨_, rfl, h⟩
section
variable {prog : Program} {w : World} {A : Around} {E : Value → Shared → Prop} {s : Shared}
theorem call_zipS {l1 l2 : Addr} {xs ys : Array Value} {Q : Value → Shared → Prop} (hl1 : s.heap.IsTuple l1 xs) (hl2 : s.heap.IsTuple l2 ys)
    (h : ∀ h', IsZipS h' (s.heap.objs.size + 4) (s.heap.objs.size + 2) (s.heap.objs.size + 3) .none → IsPair h' (s.heap.objs.size + 2) (.ref s.heap.objs.size) (.ref (s.heap.objs.size + 1)) →
      IsPair h' (s.heap.objs.size + 3) .none .none → h'.IsTupleIter s.heap.objs.size l1 0 → h'.IsTupleIter (s.heap.objs.size + 1) l2 0 → h'.objs.size = s.heap.objs.size + 5 →
      (∀ c o, s.heap.get? c = some o → h'.get? c = some o) → Q (.ref (s.heap.objs.size + 4)) { s with heap := h' }) :
    wpAny (model prog w) A (call (.type "zip") [.ref l1, .ref l2] [(Str.ofString "strict", .bool true)]) Q E s := by
  refine callType_newKw F.called_zip (by decide) (typeCall_zipS _ _) (newCall_zipS _ _) (fun obj => args_object_init_zipS obj _ _) F.entry_zip_new
    (meets_zipS_new l1 l2 xs ys) ⟨hl1, hl2, ?_⟩
  have z1 : (zipTH1 s.heap l1).objs.size = s.heap.objs.size + 1 := Heap.size_push ..
  have z2 : (zipTH2 s.heap l1 l2).objs.size = s.heap.objs.size + 2 := by rw [Heap.size_push, z1]
  have z3 : (zipTH3 s.heap l1 l2).objs.size = s.heap.objs.size + 3 := by rw [Heap.size_push, z2]
  have z4 : (zipTH4 s.heap l1 l2).objs.size = s.heap.objs.size + 4 := by rw [Heap.size_push, z3]
  have z5 : (zipSH5 s.heap l1 l2).objs.size = s.heap.objs.size + 5 := by rw [Heap.size_push, z4]
  have g5 : (zipSH5 s.heap l1 l2).get? (zipTH4 s.heap l1 l2).objs.size = some _ := Heap.get?_push_size _ rfl
  have g4 : (zipSH5 s.heap l1 l2).get? (zipTH3 s.heap l1 l2).objs.size = some _ := Heap.get?_push_of_some _ (Heap.get?_push_size _ rfl)
  have g3 : (zipSH5 s.heap l1 l2).get? (zipTH2 s.heap l1 l2).objs.size = some _ := Heap.get?_push_of_some _ (Heap.get?_push_of_some _ (Heap.get?_push_size _ rfl))
  have g2 : (zipSH5 s.heap l1 l2).get? (zipTH1 s.heap l1).objs.size = some _ := Heap.get?_push_of_some _ (Heap.get?_push_of_some _ (Heap.get?_push_of_some _ (Heap.get?_push_size _ rfl)))
  have g1 : (zipSH5 s.heap l1 l2).get? s.heap.objs.size = some _ := Heap.get?_push_of_some _ (Heap.get?_push_of_some _ (Heap.get?_push_of_some _ (Heap.get?_push_of_some _ (Heap.get?_push_size _ rfl))))
  show _ ∧ _
  rw [z2, z3, z4] at g5
  rw [z1, z2] at g3
  rw [z3] at g4
  rw [z1] at g2
  rw [z4]
  exact ⟨⟨_, g5, rfl⟩, h _ g5 g3 g4 ⟨_, g1, rfl, rfl⟩ ⟨_, g2, rfl, rfl⟩ z5 fun c o x =>
    Heap.get?_push_of_some _ (Heap.get?_push_of_some _ (Heap.get?_push_of_some _ (Heap.get?_push_of_some _ (Heap.get?_push_of_some _ x))))⟩

theorem nextOrEnd_item {it l : Addr} {i : Nat} {items : Array Value} {x : Value} {Q : Option Value → Shared → Prop} (hit : s.heap.IsTupleIter it l i) (hl : s.heap.IsTuple l items) (hx : items[i]? = some x)
    (hQ : ∀ h', h'.IsTupleIter it l (i + 1) → Heap.SameBut it s.heap h' → Q (some x) { s with heap := h' }) : wpAny (model prog w) A (Builtin.SmallTypes.nextOrEnd (.ref it)) Q E s := by
  unfold Builtin.SmallTypes.nextOrEnd
  exact wpAny_bind (wpAny_attempt (nextOf_tuple_item hit hl hx fun h' a b => wpAny_pure (hQ h' a b)))
theorem nextOrEnd_end {it l : Addr} {i : Nat} {items : Array Value} {Q : Option Value → Shared → Prop} (hh : A.handled = none) (hit : s.heap.IsTupleIter it l i) (hl : s.heap.IsTuple l items) (hx : items[i]? = none)
    (hQ : ∀ h', Heap.ExtBut it s.heap h' → Q none { s with heap := h' }) : wpAny (model prog w) A (Builtin.SmallTypes.nextOrEnd (.ref it)) Q E s := by
  unfold Builtin.SmallTypes.nextOrEnd
  refine wpAny_bind (wpAny_attempt (nextOf_tuple_end hh hit hl hx fun h' e hk he => ?_))
  obtain ⟨o, ho, hc⟩ := he
  exact wpAny_bind (wpAny_isInstance (T := "StopIteration") (b := true) ⟨o, ho, hc⟩ isSubtype_stop (wpAny_pure (hQ h' hk)))

theorem zipS_next_item {z TI TO i1 i2 l1 l2 : Addr} {k1 k2 : Nat} {xs ys : Array Value} {x y a b : Value} {Q : Value → Shared → Prop} (D : ZipApart z TI TO i1 i2 l1 l2)
    (hz : IsZipS s.heap z TI TO .none) (hTI : IsPair s.heap TI (.ref i1) (.ref i2)) (hTO : IsPair s.heap TO a b)
    (h1 : s.heap.IsTupleIter i1 l1 k1) (h2 : s.heap.IsTupleIter i2 l2 k2) (hl1 : s.heap.IsTuple l1 xs) (hl2 : s.heap.IsTuple l2 ys) (hx : xs[k1]? = some x) (hy : ys[k2]? = some y)
    (hQ : ∀ h', IsZipS h' z TI TO (rawInt s.heap.objs.size) → IsPair h' TO x y → h'.IsTupleIter i1 l1 (k1 + 1) → h'.IsTupleIter i2 l2 (k2 + 1) → IsPair h' s.heap.objs.size x y → h'.objs.size = s.heap.objs.size + 1 →
      (∀ c o, c ≠ z → c ≠ TO → c ≠ i1 → c ≠ i2 → s.heap.get? c = some o → h'.get? c = some o) → Q (.ref s.heap.objs.size) { s with heap := h' }) :
    wpAny (model prog w) A (Builtin.«zip.__next__» ⟨[.ref z], []⟩) (fun fin s' => ∃ v, fin = .done (.ret v) ∧ Q v s') E s := by
  show wpAny _ _ (field (.ref z) 2 >>= _) _ _ _
  refine wpAny_bind (wpAny_field hz rfl (x := .bool true) rfl ?_)
  show wpAny _ _ (field (.ref z) 3 >>= _) _ _ _
  refine wpAny_bind (wpAny_field hz rfl (x := .ref TI) rfl ?_)
  refine wpAny_bind (wpAny_seqItems hTI rfl ?_)
  show wpAny _ _ (Builtin.SmallTypes.ownedTupleIsFree (.ref z) >>= _) _ _ _
  refine wpAny_bind ?_
  unfold Builtin.SmallTypes.ownedTupleIsFree
  refine wpAny_bind (wpAny_field hz rfl (x := .none) rfl (wpAny_pure ?_))
  simp only [if_true]
  refine wpAny_bind (wpAny_rule ?_)
  refine wpAny_bind (wpAny_field hz rfl (x := .ref TO) rfl ?_)
  refine wpAny_bind (wpAny_setField_rec hz (by simp) fun h₁ hz₁ hs₁ => ?_)
  replace hz₁ : IsZipS h₁ z TI TO .ellipsis := hz₁
  refine wpAny_bind ?_
  simp only [List.zipIdx_cons, List.zipIdx_nil, List.forIn_cons, List.forIn_nil]
  refine wpAny_bind (wpAny_bind (wpAny_onRaise ?_))
  show wpAny _ _ (Builtin.SmallTypes.nextOrEnd (.ref i1)) _ _ _
  refine nextOrEnd_item (h1.extBut hs₁.extBut D.i1z) (hl1.extBut hs₁.extBut D.l1z) hx fun h₂ h1₂ hs₂ => ?_
  have hTO₂ : IsPair h₂ TO a b := hs₂.extBut _ _ D.TOi1 (hs₁.extBut _ _ D.TOz hTO)
  refine wpAny_bind (wpAny_seqItems hTO₂ rfl ?_)
  refine wpAny_bind (wpAny_updateSeq_pair hTO₂ fun h₃ hTO₃ hs₃ => ?_)
  replace hTO₃ : IsPair h₃ TO x b := hTO₃
  refine wpAny_bind (wpAny_letGo (wpAny_pure ?_))
  refine wpAny_bind (wpAny_bind (wpAny_onRaise ?_))
  show wpAny _ _ (Builtin.SmallTypes.nextOrEnd (.ref i2)) _ _ _
  refine nextOrEnd_item (((h2.extBut hs₁.extBut D.i2z).extBut hs₂.extBut D.i12.symm).extBut hs₃.extBut D.TOi2.symm)
    (((hl2.extBut hs₁.extBut D.l2z).extBut hs₂.extBut D.l2i1).extBut hs₃.extBut D.l2TO) hy fun h₄ h2₄ hs₄ => ?_
  have hTO₄ : IsPair h₄ TO x b := hs₄.extBut _ _ D.TOi2 hTO₃
  refine wpAny_bind (wpAny_seqItems hTO₄ rfl ?_)
  refine wpAny_bind (wpAny_updateSeq_pair hTO₄ fun h₅ hTO₅ hs₅ => ?_)
  replace hTO₅ : IsPair h₅ TO x y := hTO₅
  refine wpAny_bind (wpAny_letGo (wpAny_pure (wpAny_pure ?_)))
  refine wpAny_bind (wpAny_seqItems hTO₅ rfl ?_)
  refine wpAny_bind (wpAny_newTuple ?_)
  have hsz : h₅.objs.size = s.heap.objs.size := by rw [hs₅.1, hs₄.1, hs₃.1, hs₂.1, hs₁.1]
  have hz₅ : IsZipS h₅ z TI TO .ellipsis := hs₅.extBut _ _ D.TOz.symm (hs₄.extBut _ _ D.i2z.symm (hs₃.extBut _ _ D.TOz.symm (hs₂.extBut _ _ D.i1z.symm hz₁)))
  have hk₅ : ∀ c o, c ≠ z → c ≠ TO → c ≠ i1 → c ≠ i2 → s.heap.get? c = some o → h₅.get? c = some o := fun c o c1 c2 c3 c4 e =>
    hs₅.extBut _ _ c2 (hs₄.extBut _ _ c4 (hs₃.extBut _ _ c2 (hs₂.extBut _ _ c3 (hs₁.extBut _ _ c1 e))))
  have h1₅ : h₅.IsTupleIter i1 l1 (k1 + 1) := ((h1₂.extBut hs₃.extBut D.TOi1.symm).extBut hs₄.extBut D.i12).extBut hs₅.extBut D.TOi1.symm
  have h2₅ : h₅.IsTupleIter i2 l2 (k2 + 1) := h2₄.extBut hs₅.extBut D.TOi2.symm
  have hzlt : z < h₅.objs.size := Heap.lt_size hz₅
  have hTOlt : TO < h₅.objs.size := Heap.lt_size hTO₅
  show wpAny _ _ (Builtin.SmallTypes.ownedTupleHandOut (.ref z) (.ref h₅.objs.size) >>= _) _ _ _
  refine wpAny_bind ?_
  unfold Builtin.SmallTypes.ownedTupleHandOut
  have hz₆ : IsZipS (h₅.push { cls := .type "tuple", data := .seq #[x, y] }) z TI TO .ellipsis := Heap.get?_push_of_some _ hz₅
  refine wpAny_bind (wpAny_setField_rec hz₆ (by simp) fun h₇ hz₇ hs₇ => ?_)
  replace hz₇ : IsZipS h₇ z TI TO (rawInt h₅.objs.size) := hz₇
  refine wpAny_setField_rec hz₇ (by simp) fun h₈ hz₈ hs₈ => ?_
  replace hz₈ : IsZipS h₈ z TI TO (rawInt h₅.objs.size) := hz₈
  have up : ∀ c o, c ≠ z → h₅.get? c = some o → h₈.get? c = some o := fun c o c1 e => hs₈.extBut _ _ c1 (hs₇.extBut _ _ c1 (Heap.get?_push_of_some _ e))
  have hT₈ : IsPair h₈ h₅.objs.size x y := hs₈.extBut _ _ (Nat.ne_of_gt hzlt) (hs₇.extBut _ _ (Nat.ne_of_gt hzlt) (Heap.get?_push_size _ rfl))
  have hz8 : h₈.objs.size = h₅.objs.size + 1 := by rw [hs₈.1, hs₇.1, Heap.size_push]
  rw [hsz] at hz₈ hT₈ hz8
  refine wpAny_pure ⟨_, rfl, ?_⟩
  show Q (.ref h₅.objs.size) _
  rw [hsz]
  exact hQ h₈ hz₈ (up _ _ D.TOz hTO₅) (h1₅.at fun o e => up _ o D.i1z e) (h2₅.at fun o e => up _ o D.i2z e) hT₈ hz8 fun c o c1 c2 c3 c4 e => up c o c1 (hk₅ c o c1 c2 c3 c4 e)

theorem zipS_next_end {z TI TO i1 i2 l1 l2 : Addr} {k1 k2 : Nat} {xs ys : Array Value} {a b : Value} {Q : Fin → Shared → Prop} (hh : A.handled = none) (D : ZipApart z TI TO i1 i2 l1 l2)
    (hz : IsZipS s.heap z TI TO .none) (hTI : IsPair s.heap TI (.ref i1) (.ref i2)) (hTO : IsPair s.heap TO a b)
    (h1 : s.heap.IsTupleIter i1 l1 k1) (h2 : s.heap.IsTupleIter i2 l2 k2) (hl1 : s.heap.IsTuple l1 xs) (hl2 : s.heap.IsTuple l2 ys) (hx : xs[k1]? = none) (hy : ys[k2]? = none)
    (hE : ∀ h' e, (∀ c o, c ≠ z → c ≠ TO → c ≠ i1 → c ≠ i2 → s.heap.get? c = some o → h'.get? c = some o) → (∃ o, h'.get? e = some o ∧ o.cls = .type "StopIteration") → E (.ref e) { s with heap := h' }) :
    wpAny (model prog w) A (Builtin.«zip.__next__» ⟨[.ref z], []⟩) Q E s := by
  show wpAny _ _ (field (.ref z) 2 >>= _) _ _ _
  refine wpAny_bind (wpAny_field hz rfl (x := .bool true) rfl ?_)
  show wpAny _ _ (field (.ref z) 3 >>= _) _ _ _
  refine wpAny_bind (wpAny_field hz rfl (x := .ref TI) rfl ?_)
  refine wpAny_bind (wpAny_seqItems hTI rfl ?_)
  show wpAny _ _ (Builtin.SmallTypes.ownedTupleIsFree (.ref z) >>= _) _ _ _
  refine wpAny_bind ?_
  unfold Builtin.SmallTypes.ownedTupleIsFree
  refine wpAny_bind (wpAny_field hz rfl (x := .none) rfl (wpAny_pure ?_))
  simp only [if_true]
  refine wpAny_bind (wpAny_rule ?_)
  refine wpAny_bind (wpAny_field hz rfl (x := .ref TO) rfl ?_)
  refine wpAny_bind (wpAny_setField_rec hz (by simp) fun h₁ hz₁ hs₁ => ?_)
  replace hz₁ : IsZipS h₁ z TI TO .ellipsis := hz₁
  refine wpAny_bind ?_
  simp only [List.zipIdx_cons, List.zipIdx_nil, List.forIn_cons, List.forIn_nil]
  refine wpAny_bind (wpAny_bind (wpAny_onRaise ?_))
  show wpAny _ _ (Builtin.SmallTypes.nextOrEnd (.ref i1)) _ _ _
  refine nextOrEnd_end hh (h1.extBut hs₁.extBut D.i1z) (hl1.extBut hs₁.extBut D.l1z) hx fun h₂ hs₂ => ?_
  have hz₂ : IsZipS h₂ z TI TO .ellipsis := hs₂ _ _ D.i1z.symm hz₁
  refine wpAny_bind (wpAny_setField_rec hz₂ (by simp) fun h₃ hz₃ hs₃ => ?_)
  refine wpAny_bind (wpAny_bind ?_)
  refine wpAny_bind (Q := _) ?_
  simp only [List.drop_succ_cons, List.drop_zero, List.zipIdx_cons, List.zipIdx_nil, List.forIn_cons, List.forIn_nil]
  have h2₃ : h₃.IsTupleIter i2 l2 k2 := by
    obtain ⟨o, ho, hc⟩ := h2
    exact ⟨o, hs₃.extBut _ _ D.i2z (hs₂ _ _ D.i12.symm (hs₁.extBut _ _ D.i2z ho)), hc⟩
  have hl2₃ : h₃.IsTuple l2 ys := by
    obtain ⟨o, ho, hc⟩ := hl2
    exact ⟨o, hs₃.extBut _ _ D.l2z (hs₂ _ _ D.l2i1 (hs₁.extBut _ _ D.l2z ho)), hc⟩
  refine wpAny_bind (nextOrEnd_end hh h2₃ hl2₃ hy fun h₄ hs₄ => ?_)
  simp only [Option.isSome_none, Bool.false_eq_true, if_false]
  refine wpAny_pure (wpAny_pure ?_)
  refine wpAny_bind (wpAny_rule ?_)
  unfold Builtin.SmallTypes.stopIteration
  refine wpAny_bind ?_
  simp only [newExc, newTuple]
  refine wpAny_bind (wpAny_newObj_type ?_ (by size_fits))
  refine wpAny_bind (m := firstArgMember _ _) (wpAny_of_eq (a := Value.none) (by first | rfl | (simp only [firstArgMember]; rfl)) ?_)
  refine wpAny_newObj_type ?_ (by size_fits)
  simp only [raiseNew]
  refine wpAny_bind (wpAny_handled ?_)
  first | rw [show A.in1.handled = none from hh] | rw [hh]
  refine wpAny_bind (wpAny_pure (wpAny_throw ?_))
  refine hE _ _ (fun c o c1 c2 c3 c4 x => Heap.get?_push_of_some _ (Heap.get?_push_of_some _ (hs₄ _ _ c4 (hs₃.extBut _ _ c1 (hs₂ _ _ c3 (hs₁.extBut _ _ c1 x)))))) ⟨_, Heap.get?_push_size _ rfl, rfl⟩
theorem pyNext_zipS_item {z TI TO i1 i2 l1 l2 : Addr} {k1 k2 : Nat} {xs ys : Array Value} {x y a b : Value} {Q : Option Value → Shared → Prop} (D : ZipApart z TI TO i1 i2 l1 l2)
    (hz : IsZipS s.heap z TI TO .none) (hTI : IsPair s.heap TI (.ref i1) (.ref i2)) (hTO : IsPair s.heap TO a b)
    (h1 : s.heap.IsTupleIter i1 l1 k1) (h2 : s.heap.IsTupleIter i2 l2 k2) (hl1 : s.heap.IsTuple l1 xs) (hl2 : s.heap.IsTuple l2 ys) (hx : xs[k1]? = some x) (hy : ys[k2]? = some y)
    (hQ : ∀ h', IsZipS h' z TI TO (rawInt s.heap.objs.size) → IsPair h' TO x y → h'.IsTupleIter i1 l1 (k1 + 1) → h'.IsTupleIter i2 l2 (k2 + 1) → IsPair h' s.heap.objs.size x y → h'.objs.size = s.heap.objs.size + 1 →
      (∀ c o, c ≠ z → c ≠ TO → c ≠ i1 → c ≠ i2 → s.heap.get? c = some o → h'.get? c = some o) → Q (some (.ref s.heap.objs.size)) { s with heap := h' }) :
    wpAny (model prog w) A (pyNext (.ref z)) Q E s := by
  have hT : s.TypeIs (.ref z) "zip" := ⟨_, hz, rfl⟩
  unfold pyNext
  exact wpAny_bind (wpAny_attempt (wpAny_callSpecial?_slot (name := Str.ofString "__next__") hT F.slot_zip_next
    (wpAny_call_entry F.slot_zip_next hT F.entry_zip_next
      (zipS_next_item D hz hTI hTO h1 h2 hl1 hl2 hx hy fun h' a1 a2 a3 a4 a5 a6 a7 => wpAny_pure (hQ h' a1 a2 a3 a4 a5 a6 a7)) (F.args_zip_next_1 _))))
theorem pyNext_zipS_end {z TI TO i1 i2 l1 l2 : Addr} {k1 k2 : Nat} {xs ys : Array Value} {a b : Value} {Q : Option Value → Shared → Prop} (hh : A.handled = none) (D : ZipApart z TI TO i1 i2 l1 l2)
    (hz : IsZipS s.heap z TI TO .none) (hTI : IsPair s.heap TI (.ref i1) (.ref i2)) (hTO : IsPair s.heap TO a b)
    (h1 : s.heap.IsTupleIter i1 l1 k1) (h2 : s.heap.IsTupleIter i2 l2 k2) (hl1 : s.heap.IsTuple l1 xs) (hl2 : s.heap.IsTuple l2 ys) (hx : xs[k1]? = none) (hy : ys[k2]? = none)
    (hQ : ∀ h', (∀ c o, c ≠ z → c ≠ TO → c ≠ i1 → c ≠ i2 → s.heap.get? c = some o → h'.get? c = some o) → Q none { s with heap := h' }) : wpAny (model prog w) A (pyNext (.ref z)) Q E s := by
  have hT : s.TypeIs (.ref z) "zip" := ⟨_, hz, rfl⟩
  unfold pyNext
  refine wpAny_bind (wpAny_attempt (wpAny_callSpecial?_slot (name := Str.ofString "__next__") hT F.slot_zip_next
    (wpAny_call_entry F.slot_zip_next hT F.entry_zip_next (zipS_next_end hh D hz hTI hTO h1 h2 hl1 hl2 hx hy fun h' e hk he => ?_) (F.args_zip_next_1 _))))
  obtain ⟨o, ho, hc⟩ := he
  exact wpAny_bind (wpAny_isInstance (T := "StopIteration") (b := true) ⟨o, ho, hc⟩ isSubtype_stop (wpAny_pure (hQ _ hk)))
theorem letOwnedTupleGo_zipS {elts : List Expr} {x1} {pos : Pos} {z TI TO T : Addr} {Q : Unit → Shared → Prop} (hz : IsZipS s.heap z TI TO (rawInt T))
    (hQ : ∀ h', IsZipS h' z TI TO .none → Heap.SameBut z s.heap h' → Q () { s with heap := h' }) :
    wpAny (model prog w) A (letOwnedTupleGo (.Tuple elts x1 pos) (.ref z) (.ref T)) Q E s := by
  unfold letOwnedTupleGo
  refine wpAny_bind (wpAny_load hz ?_)
  show wpAny _ _ (if (["enumerate", "zip", "dict_itemiterator", "dict_reverseitemiterator", "odict_iterator", "itertools.zip_longest", "itertools.pairwise"].contains "zip" &&
      (#[rawInt T, .bool false, .bool true, .ref TI, .ref TO] : Array Value)[0]? == some (rawInt T)) = true then _ else _) Q E s
  rw [if_pos (by simp)]
  refine wpAny_bind (wpAny_rule ?_)
  show wpAny _ _ (setField (.ref z) 0 .none) Q E s
  exact wpAny_setField_rec hz (by simp) fun h' hz' hs' => hQ h' hz' hs'
theorem pyIter_zipS {z TI TO : Addr} {f0 : Value} {Q : Value → Shared → Prop} (hz : IsZipS s.heap z TI TO f0) (h : Q (.ref z) s) : wpAny (model prog w) A (pyIter (.ref z)) Q E s := by
  have hT : s.TypeIs (.ref z) "zip" := ⟨_, hz, rfl⟩
  refine wpAny_pyIter_slot hT F.slot_zip_iter (wpAny_call_entry F.slot_zip_iter hT F.entry_zip_iter ?_ (F.args_zip_iter_1 _))
  show wpAny _ _ (ret (.ref z)) _ _ s
  exact wpAny_pure ⟨_, rfl, "zip", _, hT, F.slot_zip_next.lookup, h⟩
end
end LZ
namespace LZ
open PySem PySem.Spec PyProof.Rows L2 RZ
def ItzS (K : PySem.W.Frag) (a b : Addr) : It :=
  ⟨(ItzT K a b).go, (ItzT K a b).yld, fun i H => ∃ xs ys : List V, SqT K H a xs ∧ SqT K H b ys ∧ xs.length ≤ i ∧ ys.length ≤ i⟩
theorem turn_zipS {P : Program} {w : World} {K : PySem.W.Frag} {elts : List Expr} {kk : Nat} {tpos : Pos} {a b z TI TO i1 i2 : Addr} (D : ZipApart z TI TO i1 i2 a b) :
    Turn P w K (.Tuple elts kk tpos) (ItzS K a b) [z, TI, TO, i1, i2] z (fun i h => IsZipS h z TI TO .none ∧ IsPair h TI (.ref i1) (.ref i2) ∧ (∃ x y, IsPair h TO x y) ∧ h.IsTupleIter i1 a i ∧ h.IsTupleIter i2 b i) where
  mem := by simp
  obj := fun i h st c hc => by
    obtain ⟨hz, hTI, ⟨x, y, hTO⟩, ⟨o1, e1, _, d1⟩, ⟨o2, e2, _, d2⟩⟩ := st
    have e' : c = z ∨ c = TI ∨ c = TO ∨ c = i1 ∨ c = i2 := by simpa using hc
    rcases e' with q | q | q | q | q
    · rw [q]; exact ⟨_, hz, fun v q => nomatch q⟩
    · rw [q]; exact ⟨_, hTI, fun v q => nomatch q⟩
    · rw [q]; exact ⟨_, hTO, fun v q => nomatch q⟩
    · rw [q]; exact ⟨o1, e1, fun v q => by rw [d1] at q; cases q⟩
    · rw [q]; exact ⟨o2, e2, fun v q => by rw [d2] at q; cases q⟩
  keep := fun i h h' st k => by
    obtain ⟨hz, hTI, ⟨x, y, hTO⟩, h1, h2⟩ := st
    exact ⟨k z (by simp) _ hz, k TI (by simp) _ hTI, ⟨x, y, k TO (by simp) _ hTO⟩, h1.at fun o q => k i1 (by simp) o q, h2.at fun o q => k i2 (by simp) o q⟩
  item := by
    intro X hP hw hK hc i pins s σ H E I hf st hg
    subst hP hw hK
    obtain ⟨hz, hTI, ⟨x0, y0, hTO⟩, h1, h2⟩ := st
    obtain ⟨xs, ys, x, y, hqx, hqy, hx, hy⟩ := hg
    obtain ⟨its, rv, p, _⟩ := I.tuple hqx
    obtain ⟨its2, rv2, p2, _⟩ := I.tuple hqy
    obtain ⟨u, hu, ru⟩ := rv.get hx
    obtain ⟨u2, hu2, ru2⟩ := rv2.get hy
    have hzl : z < s.heap.objs.size := Heap.lt_size hz
    refine pyNext_zipS_item D hz hTI hTO h1 h2 p p2 (x := u) (y := u2) (by simpa using hu) (by simpa using hu2) fun h' z' TO' h1' h2' hT hsz hk => ?_
    refine ⟨_, rfl, letOwnedTupleGo_zipS (s := { s with heap := h' }) z' fun h'' z'' sb => ?_⟩
    have hT2 : h''.get? s.heap.objs.size = some { cls := .type "tuple", data := .seq #[u, u2] } := (sb.2 _ (Nat.ne_of_gt hzl)).trans hT
    have new : ObjOk X.prog X.w (upd H s.heap.objs.size (.tup [x, y])) h'' s.heap.objs.size (.tup [x, y]) :=
      ⟨by show 2 ≤ sizeLine; decide, [u, u2], .cons ru (.cons ru2 .nil), ⟨_, hT2, rfl, _, rfl⟩⟩
    have I1 : Inv X pins σ (upd H s.heap.objs.size (.tup [x, y])) { s with heap := h'' } :=
      I.turnedNew (t' := s.toks) (ch := [z, TI, TO, i1, i2]) (fun c o hb q => (sb.2 c (fun q' => hb (by simp [q']))).trans (hk c o (fun q' => hb (by simp [q'])) (fun q' => hb (by simp [q'])) (fun q' => hb (by simp [q'])) (fun q' => hb (by simp [q'])) q)) hf (Nat.le_refl _) new
    refine ⟨.ref s.heap.objs.size, _, I1, rfl, ⟨_, x, y, rfl, I.hok.fresh (Nat.le_refl _), rfl, fun l hl => by rw [I.tuple_inj hl hqx]; exact hx, fun l hl => by rw [I.tuple_inj hl hqy]; exact hy⟩, ⟨z'', ?_, ⟨u, u2, ?_⟩, ?_, ?_⟩, fun c hcm => ?_⟩
    · exact (sb.2 _ D.TIz).trans (hk _ _ D.TIz D.TITO D.TIi1 D.TIi2 hTI)
    · exact (sb.2 _ D.TOz).trans TO'
    · exact h1'.at fun o q => (sb.2 _ D.i1z).trans q
    · exact h2'.at fun o q => (sb.2 _ D.i2z).trans q
    · have hlt : c < s.heap.objs.size := by
        have e' : c = z ∨ c = TI ∨ c = TO ∨ c = i1 ∨ c = i2 := by simpa using hcm
        rcases e' with q | q | q | q | q
        · rw [q]; exact hzl
        · rw [q]; exact Heap.lt_size hTI
        · rw [q]; exact Heap.lt_size hTO
        · rw [q]; obtain ⟨_, e1, _⟩ := h1; exact Heap.lt_size e1
        · rw [q]; obtain ⟨_, e2, _⟩ := h2; exact Heap.lt_size e2
      rw [upd_ne (Nat.ne_of_lt hlt)]
      exact (hf c hcm).1
  done := by
    intro X hP hw hK hc i pins s σ H E I hf st hg
    subst hP hw hK
    obtain ⟨hz, hTI, ⟨x0, y0, hTO⟩, h1, h2⟩ := st
    obtain ⟨xs, ys, hqx, hqy, hend⟩ := hg
    obtain ⟨its, rv, p, _⟩ := I.tuple hqx
    obtain ⟨its2, rv2, p2, _⟩ := I.tuple hqy
    have l1 := rv.length
    have l2 := rv2.length
    have he : its.toArray[i]? = none := by simp; omega
    have he2 : its2.toArray[i]? = none := by simp; omega
    exact pyNext_zipS_end (I.ok.hd hc) D hz hTI hTO h1 h2 p p2 he he2 fun h' hk => ⟨rfl, I.turnedL (t' := s.toks) (ch := [z, TI, TO, i1, i2]) (fun c o hb q =>
      hk c o (fun q' => hb (by simp [q'])) (fun q' => hb (by simp [q'])) (fun q' => hb (by simp [q'])) (fun q' => hb (by simp [q'])) q) hf⟩
  self := fun A i s Q E st h => pyIter_zipS st.1 h
theorem callWith_type_kwB {M : Model} {A : Around} {E : Value → Shared → Prop} {s : Shared} {pos : Pos} {T : String} {first : List Value} {args : List (Bool × Sem Value)} {keywords : List (Option Str × Sem Value)} {Q : Value → Shared → Prop}
    (hplain : args.any (·.1) = false) (hkw : keywords.any (·.1.isNone) = false)
    (h : wpAny M A (evalArgs (.type T) true args keywords) (fun a s₁ => wpAny M A (call (.type T) (first ++ a.pos) a.kw) Q E s₁) E s) :
    wpAny M A (callWith pos (.type T) first args keywords) Q E s := by
  unfold callWith
  refine wpAny_bind (wpAny_holding (wpAny_mono h (fun a s₁ h₁ => wpAny_bind (wpAny_standAt ?_)) fun _ _ x => x))
  simp only [hplain, hkw, Bool.or_false]
  refine wpAny_bind (wpAny_pure ?_)
  exact wpAny_bind (wpAny_mono h₁ (fun r s₂ hr => wpAny_bind (wpAny_holding (wpAny_point (wpAny_pure hr)))) fun _ _ x => x)
def iZipS (K : PySem.W.Frag) (ta : TA) : TI := fun σ H R => ta σ H fun vs H1 => ∃ a b xs ys, vs = [.ref a, .ref b] ∧ SqT K H1 a xs ∧ SqT K H1 b ys ∧ R (ItzS K a b) H1
theorem pi_zipS {X : Cx} {e e2 : Expr} {ta : TA} {p pos tpos cpos kpos : Pos} {elts : List Expr} {kk : Nat} {j : Nat} (hg : Gl X "zip") (hm : X.mg "zip" = none) (ha : PA X [e, e2] ta)
    (hs : backTo pos (starEach [e, e2] X.env) = (false, eval e X.env) :: backTo pos (starEach [e2] X.env) := by rfl) (hpl : (backTo pos (starEach [e, e2] X.env)).any (·.1) = false := by rfl) :
    PI X (.Tuple elts kk tpos) (.Call (.Name "zip" p) [e, e2] [⟨some "strict", .Constant (.bool true) j cpos, kpos⟩] pos) (iZipS X.K ta) := by
  refine ⟨fun pins s σ H R I h => ?_⟩
  refine wpAny_Call_Name_kw (ld_blt I hg hm PyProof.Rows.boot_zip (callWith_type_kwB hpl rfl ?_))
  rw [hs]
  refine evalArgs_kwB rfl ?_
  rw [← hs]
  refine thn (ha.run pos pins s σ H _ I h) fun us s1 ⟨vs, H1, I1, r1, q1⟩ => ?_
  refine PyProof.Rows.kws_cons (thn (pe_bl.run pins s1 σ H1 (fun v H2 => v = .bl true ∧ H2 = H1) I1 ⟨rfl, rfl⟩) fun u s2 ⟨v, H2, I2, r2, q2, q3⟩ => PyProof.Rows.kws_nil ?_)
  subst q2 q3
  obtain rfl : u = .bool true := r2
  obtain ⟨a, b, xs, ys, ex, hqx, hqy, q⟩ := q1
  subst ex
  cases r1 with
  | cons r rr =>
    cases rr with
    | cons r' rr =>
      cases rr
      cases r
      cases r'
      have fresh5 : ∀ c, c ∈ [s2.heap.objs.size + 4, s2.heap.objs.size + 2, s2.heap.objs.size + 3, s2.heap.objs.size, s2.heap.objs.size + 1] → FpOk X pins H2 c := fun c hcm => by
        have e' : c = s2.heap.objs.size + 4 ∨ c = s2.heap.objs.size + 2 ∨ c = s2.heap.objs.size + 3 ∨ c = s2.heap.objs.size ∨ c = s2.heap.objs.size + 1 := by simpa using hcm
        have hle : s2.heap.objs.size ≤ c := by
          rcases e' with z | z | z | z | z
          · rw [z]; exact Nat.le_add_right _ _
          · rw [z]; exact Nat.le_add_right _ _
          · rw [z]; exact Nat.le_add_right _ _
          · rw [z]; exact Nat.le_refl _
          · rw [z]; exact Nat.le_add_right _ _
        exact I2.fpOk hle (I2.hok.fresh hle)
      obtain ⟨its, rv, p1, _⟩ := I2.tuple hqx
      obtain ⟨its2, rv2, p2, _⟩ := I2.tuple hqy
      obtain ⟨o1, ho1, _⟩ := id p1
      obtain ⟨o2, ho2, _⟩ := id p2
      refine call_zipS (show s2.heap.IsTuple a its.toArray from p1) (show s2.heap.IsTuple b its2.toArray from p2) fun h' hz hTI hTO h1 h2 hsz hk => pyIter_zipS hz ?_
      have I3 : Inv X pins σ H2 { s2 with heap := h' } := I2.kept (t' := s2.toks) hk
      exact ⟨s2.heap.objs.size + 4, [s2.heap.objs.size + 4, s2.heap.objs.size + 2, s2.heap.objs.size + 3, s2.heap.objs.size, s2.heap.objs.size + 1], _, _, H2, rfl, I3, turn_zipS (PySem.W.ktu_apart s2.heap.objs.size a b (Heap.lt_size ho1) (Heap.lt_size ho2)), ⟨hz, hTI, ⟨_, _, hTO⟩, h1, h2⟩, fresh5, q⟩
end LZ
end

section
set_option Elab.async false
set_option linter.all false
set_option maxRecDepth 100000
set_option maxHeartbeats 4000000
/-! L3j: zip of tuples. -/
namespace L3
open PySem PySem.Spec PyProof.Rows L2 RZ LZ
section
variable {K : PySem.W.Frag}
theorem zipT_go {a b : Addr} {ds es : List D} {tv : BT} (hm : (V.ref a, D.tup ds) ∈ tv) (hm' : (V.ref b, D.tup es) ∈ tv) {i : Nat} {τ : T3} {G : Gp} {Fz : Addr → Prop} {σ : L2.St} {H : Hp} (r : Rel K tv τ G Fz σ H) (hi : i < (zpL ds es).length) : (ItzT K a b).go i H := by
  rw [zpL_len] at hi
  obtain ⟨_, vs, e, s, q⟩ := (r.tmp _ hm).inv_tup
  cases e
  obtain ⟨_, vs', e, s', q'⟩ := (r.tmp _ hm').inv_tup
  cases e
  obtain ⟨v, hv, _⟩ := q.get (i := i) (d := ds[i]'(by omega)) (by simp)
  obtain ⟨v', hv', _⟩ := q'.get (i := i) (d := es[i]'(by omega)) (by simp)
  exact ⟨vs, vs', v, v', sqT_of s, sqT_of s', hv, hv'⟩
theorem zipT_yld {a b : Addr} {ds es : List D} {tv : BT} (hm : (V.ref a, D.tup ds) ∈ tv) (hm' : (V.ref b, D.tup es) ∈ tv) {i : Nat} {τ : T3} {G : Gp} {Fz : Addr → Prop} {σ : L2.St} {H H' : Hp} {x : V} {d : D} (r : Rel K tv τ G Fz σ H) (hd : (zpL ds es)[i]? = some d) (y : (ItzT K a b).yld i H x H') :
    ∃ Fz', Rel K ((x, d) :: tv) τ G Fz' σ H' := by
  obtain ⟨T, x, x', rfl, hT, rfl, y, y'⟩ := y
  obtain ⟨_, vs, e, s, q⟩ := (r.tmp _ hm).inv_tup
  cases e
  obtain ⟨_, vs', e, s', q'⟩ := (r.tmp _ hm').inv_tup
  cases e
  have hi : i < min ds.length es.length := by have := (List.getElem?_eq_some_iff.mp hd).1; rwa [zpL_len] at this
  have hg : ds[i]? = some (ds[i]'(by omega)) := by simp
  have hg' : es[i]? = some (es[i]'(by omega)) := by simp
  rw [zpL_get hg hg'] at hd
  cases hd
  have rx := q.at_ i _ _ (y vs (sqT_of s)) hg
  have rx' := q'.at_ i _ _ (y' vs' (sqT_of s')) hg'
  exact ⟨_, (r.new hT).push (Rep.mk_tup Rel.stl (.cons (rx.ext (r.ext1 hT)) (.one (rx'.ext (r.ext1 hT)))))⟩
theorem sims_zipT {a b : Addr} {ds es : List D} {tv : BT} (hm : (V.ref a, D.tup ds) ∈ tv) (hm' : (V.ref b, D.tup es) ∈ tv) : Sims K tv (ItzT K a b) (zpL ds es) where
  go := zipT_go hm hm'
  stop := fun {i τ G Fz σ H} r hi => by
    rw [zpL_len] at hi
    obtain ⟨_, vs, e, s, q⟩ := (r.tmp _ hm).inv_tup
    cases e
    obtain ⟨_, vs', e, s', q'⟩ := (r.tmp _ hm').inv_tup
    cases e
    exact ⟨vs, vs', sqT_of s, sqT_of s', by rw [q.len, q'.len]; omega⟩
  yld := zipT_yld hm hm'
theorem sims_zipS {a b : Addr} {ds es : List D} {tv : BT} (hl : ds.length = es.length) (hm : (V.ref a, D.tup ds) ∈ tv) (hm' : (V.ref b, D.tup es) ∈ tv) : Sims K tv (ItzS K a b) (zpL ds es) where
  go := zipT_go hm hm'
  stop := fun {i τ G Fz σ H} r hi => by
    rw [zpL_len] at hi
    obtain ⟨_, vs, e, s, q⟩ := (r.tmp _ hm).inv_tup
    cases e
    obtain ⟨_, vs', e, s', q'⟩ := (r.tmp _ hm').inv_tup
    cases e
    exact ⟨vs, vs', sqT_of s, sqT_of s', by rw [q.len]; omega, by rw [q'.len]; omega⟩
  yld := zipT_yld hm hm'
end
section
variable {X : Cx} {B : BT} {e e2 : Expr} {te te2 : TE3} {p pos tpos cpos kpos : Pos} {elts : List Expr} {kk j : Nat}
def iZipT3 (ta tb : TE3) : TI3 := fun τ G R => ta τ G fun d G1 => tb τ G1 fun d2 G2 => match d, d2 with
  | .tup ds, .tup es => R (zpL ds es) G2
  | _, _ => False
def iZipS3 (ta tb : TE3) : TI3 := fun τ G R => ta τ G fun d G1 => tb τ G1 fun d2 G2 => match d, d2 with
  | .tup ds, .tup es => ds.length = es.length ∧ R (zpL ds es) G2
  | _, _ => False
theorem li_zipT (hg : Gl X "zip") (hm : X.mg "zip" = none) (h : LE X B e te) (h2 : LE X B e2 te2)
    (hs : starEach [e, e2] X.env = (false, eval e X.env) :: starEach [e2] X.env := by rfl) (hpl : (backTo pos (starEach [e2] X.env)).any (·.1) = false := by rfl) (hs2' : starEach [e2] X.env = (false, eval e2 X.env) :: starEach [] X.env := by rfl) :
    LI X B (.Tuple elts kk tpos) (.Call (.Name "zip" p) [e, e2] [] pos) (iZipT3 te te2) :=
  (pi_zipA hg hm (pa_cons h (pa_cons h2 pa_nil hs2') hs) hs hpl).imp fun σ H R ⟨Fz, tv, τ, G, R3, hB, r, ht, k⟩ => emb.mk hB r ht fun v H1 Fz1 d G1 r1 h1 => emb.mk (subB hB) r1 h1 fun u H2 Fz2 d2 G2 r2 h2 => by
    cases d with
    | tup ds => cases d2 with
      | tup es =>
        obtain ⟨a, vs, rfl, s, q⟩ := r2.h2.inv_tup
        obtain ⟨b, ws, rfl, s', q'⟩ := r2.h1.inv_tup
        exact ⟨a, b, vs, ws, rfl, .inr ⟨sqT_of s, sqT_of s', k _ H2 Fz2 _ _ G2 (fun p hp => List.mem_cons_of_mem _ (List.mem_cons_of_mem _ hp)) r2 (sims_zipT (List.mem_cons_of_mem _ List.mem_cons_self) List.mem_cons_self) h2⟩⟩
      | _ => exact h2.elim
    | _ => exact h2.elim
theorem li_zipS (hg : Gl X "zip") (hm : X.mg "zip" = none) (h : LE X B e te) (h2 : LE X B e2 te2)
    (hs : starEach [e, e2] X.env = (false, eval e X.env) :: starEach [e2] X.env := by rfl) (hs0 : backTo pos (starEach [e, e2] X.env) = (false, eval e X.env) :: backTo pos (starEach [e2] X.env) := by rfl) (hpl : (backTo pos (starEach [e, e2] X.env)).any (·.1) = false := by rfl) (hs2' : starEach [e2] X.env = (false, eval e2 X.env) :: starEach [] X.env := by rfl) :
    LI X B (.Tuple elts kk tpos) (.Call (.Name "zip" p) [e, e2] [⟨some "strict", .Constant (.bool true) j cpos, kpos⟩] pos) (iZipS3 te te2) :=
  (pi_zipS hg hm (pa_cons h (pa_cons h2 pa_nil hs2') hs) hs0 hpl).imp fun σ H R ⟨Fz, tv, τ, G, R3, hB, r, ht, k⟩ => emb.mk hB r ht fun v H1 Fz1 d G1 r1 h1 => emb.mk (subB hB) r1 h1 fun u H2 Fz2 d2 G2 r2 h2 => by
    cases d with
    | tup ds => cases d2 with
      | tup es =>
        obtain ⟨a, vs, rfl, s, q⟩ := r2.h2.inv_tup
        obtain ⟨b, ws, rfl, s', q'⟩ := r2.h1.inv_tup
        exact ⟨a, b, vs, ws, rfl, sqT_of s, sqT_of s', k _ H2 Fz2 _ _ G2 (fun p hp => List.mem_cons_of_mem _ (List.mem_cons_of_mem _ hp)) r2 (sims_zipS h2.1 (List.mem_cons_of_mem _ List.mem_cons_self) List.mem_cons_self) h2.2⟩
      | _ => exact h2.elim
    | _ => exact h2.elim
end
end L3
end

section
set_option Elab.async false
set_option linter.all false
set_option maxRecDepth 100000
set_option maxHeartbeats 4000000
/-! L3k: what is left over. -/
namespace L3
open PySem PySem.Spec PyProof.Rows L2
section
variable {X : Cx} {B : BT} {e : Expr} {te : TE3} {pos : Pos}
def lNeg (te : TE3) : TE3 := fun τ G Q => te τ G fun d G1 => match d with
  | .int i => Q (.int (-i)) G1
  | _ => False
theorem le_neg (h : LE X B e te) : LE X B (.UnaryOp .USub e pos) (lNeg te) :=
  (pe_un un_neg h).imp fun σ H Q ⟨Fz, tv, τ, G, Q3, hB, r, ht, k⟩ => emb.mk hB r ht fun v H1 Fz1 d G1 r1 h1 => by
    cases d with
    | int i => exact ⟨i, r1.h1.inv_int, k _ H1 (.mk r1.tl (.int _) h1)⟩
    | _ => exact h1.elim
theorem le_gi {x : Str} {i : Int} (hg : Gl X x) (h : ∃ t, X.mg x = some (.int i t)) (hd : (x == ("__debug__" : Str)) = false := by decide) : LE X B (.Name x pos) (lC (.int i)) := by
  obtain ⟨t, h⟩ := h
  exact le_gint hg h hd
theorem le_gs {x z : Str} (hg : Gl X x) (h : ∃ t, X.mg x = some (.str z t)) (hd : (x == ("__debug__" : Str)) = false := by decide) : LE X B (.Name x pos) (lC (.str z)) := by
  obtain ⟨t, h⟩ := h
  exact le_gstr hg h hd
/-- a tuple of the module, by one fact -/
def TupG (K : PySem.W.Frag) (mg : Str → Option Value) (x : Str) (ds : List D) : Prop := ∃ p vs, mg x = some (.ref p) ∧ TupK K p vs ∧ ∀ Fz H, Reps K Fz H vs ds
theorem le_gt {x : Str} {ds : List D} (hg : Gl X x) (h : TupG X.K X.mg x ds) (hd : (x == ("__debug__" : Str)) = false := by decide) : LE X B (.Name x pos) (lC (.tup ds)) := by
  obtain ⟨p, vs, h1, h2, h3⟩ := h
  exact le_gtup hg h1 h2 h3 hd
end
theorem hu65 {A : Around} {k : Nat} (hr : Room k A) : A.units + 65 < cLine := by have := hr.un; omega
/-- a pure evaluation -/
def Ev (te : TE3) (τ : T3) (G : Gp) (v : D) : Prop := ∀ Q : K3, Q v G → te τ G Q
theorem wipe3_get_self {τ : T3} {i : Nat} : ∀ {vs : List Nat}, i ∉ vs → (wipe3 τ vs)[i]? = τ[i]?
  | [], _ => rfl
  | v :: vs, h => by
    unfold wipe3
    rw [List.getElem?_set_ne (fun e => h (by rw [e]; exact List.mem_cons_self))]
    exact wipe3_get_self fun z => h (List.mem_cons_of_mem _ z)
/-- [e for x in xs], e without effect -/
theorem lLc_map {te : TE3} {i : Nat} {vs : List Nat} {τ : T3} {G : Gp} {Q : K3} {li : TI3} (f : D → D) (ds : List D) (hli : ∀ R : List D → Gp → Prop, R ds G → li τ G R) (hl : ds.length ≤ sizeLine)
    (he : ∀ (j : Nat) d (G' : Gp), ds[j]? = some d → (∀ a o, G a = some o → G' a = some o) → Ev te ((wipe3 τ vs).set i (some d)) G' (f d)) (q : Q (.lst (ds.map f)) G) : lLc li (gName3 i) tYes3 te vs τ G Q := by
  refine hli _ fun p hp => ⟨fun j acc G' => acc = (ds.take j).map f ∧ G' = gup G p (.lst acc), ⟨rfl, rfl⟩, ?_, ?_⟩
  · rintro j d acc G' hd ⟨rfl, rfl⟩
    simp only [gName3, tYes3, if_true]
    refine he j d _ hd (fun a o h => by rw [gup_ne (g_ne h hp)]; exact h) _ ⟨gup_same, ?_, ?_, ?_⟩
    · have h1 := (List.getElem?_eq_some_iff.mp hd).1
      rw [List.length_map, List.length_take]; omega
    · rw [List.take_add_one, hd]; simp
    · rw [gup_gup]
  · rintro acc G' ⟨rfl, rfl⟩
    refine ⟨gup_same, ?_⟩
    rw [gdel_gup hp, List.take_length]
    exact q
/-- [e for x in xs if c], without effect -/
theorem lLc_filter {te : TE3} {tt : TT3} {i : Nat} {vs : List Nat} {τ : T3} {G : Gp} {Q : K3} {li : TI3} (f : D → D) (c : D → Bool) (ds : List D) (hli : ∀ R : List D → Gp → Prop, R ds G → li τ G R) (hl : ds.length ≤ sizeLine)
    (ht : ∀ (j : Nat) d (G' : Gp), ds[j]? = some d → (∀ a o, G a = some o → G' a = some o) → ∀ R : Bool → Gp → Prop, R (c d) G' → tt ((wipe3 τ vs).set i (some d)) G' R)
    (he : ∀ (j : Nat) d (G' : Gp), ds[j]? = some d → c d = true → (∀ a o, G a = some o → G' a = some o) → Ev te ((wipe3 τ vs).set i (some d)) G' (f d)) (q : Q (.lst ((ds.filter c).map f)) G) : lLc li (gName3 i) tt te vs τ G Q := by
  refine hli _ fun p hp => ⟨fun j acc G' => acc = ((ds.take j).filter c).map f ∧ G' = gup G p (.lst acc), ⟨rfl, rfl⟩, ?_, ?_⟩
  · rintro j d acc G' hd ⟨rfl, rfl⟩
    have hG : ∀ a o, G a = some o → gup G p (.lst (((ds.take j).filter c).map f)) a = some o := fun a o h => by rw [gup_ne (g_ne h hp)]; exact h
    have hl2 : (((ds.take j).filter c).map f).length < sizeLine := by
      have h1 := (List.getElem?_eq_some_iff.mp hd).1
      have h2 := List.length_filter_le c (ds.take j)
      rw [List.length_take] at h2
      rw [List.length_map]; omega
    refine ht j d _ hd hG _ ?_
    cases e : c d with
    | true =>
      rw [if_pos rfl]
      refine he j d _ hd e hG _ ⟨gup_same, hl2, ?_, by rw [gup_gup]⟩
      rw [List.take_add_one, hd]; simp [e]
    | false =>
      rw [if_neg Bool.false_ne_true]
      have e2 : (ds.take (j + 1)).filter c = (ds.take j).filter c := by rw [List.take_add_one, hd]; simp [e]
      exact ⟨by rw [e2], rfl⟩
  · rintro acc G' ⟨rfl, rfl⟩
    refine ⟨gup_same, ?_⟩
    rw [gdel_gup hp, List.take_length]
    exact q
/-- two fors, without effect -/
theorem lLc2_map {te : TE3} {tt1 : TT3} {i i1 : Nat} {vs vs1 : List Nat} {τ : T3} {G : Gp} {Q : K3} {li li1 : TI3} (f : D → D → D) (c : D → D → Bool) (ds es : List D) (hli : ∀ R : List D → Gp → Prop, R ds G → li τ G R)
    (hli1 : ∀ (j : Nat) d (G' : Gp), ds[j]? = some d → (∀ a o, G a = some o → G' a = some o) → ∀ R : List D → Gp → Prop, R es G' → li1 ((wipe3 τ vs).set i (some d)) G' R) (hl : ds.length * es.length ≤ sizeLine)
    (ht : ∀ (j : Nat) d (k : Nat) e (G' : Gp), ds[j]? = some d → es[k]? = some e → (∀ a o, G a = some o → G' a = some o) → ∀ R : Bool → Gp → Prop, R (c d e) G' → tt1 ((wipe3 ((wipe3 τ vs).set i (some d)) vs1).set i1 (some e)) G' R)
    (he : ∀ (j : Nat) d (k : Nat) e (G' : Gp), ds[j]? = some d → es[k]? = some e → c d e = true → (∀ a o, G a = some o → G' a = some o) → Ev te ((wipe3 ((wipe3 τ vs).set i (some d)) vs1).set i1 (some e)) G' (f d e))
    (q : Q (.lst (ds.flatMap fun d => (es.filter (c d)).map (f d))) G) : lLc2 li (gName3 i) tYes3 li1 (gName3 i1) tt1 te vs vs1 τ G Q := by
  have hlen : ∀ xs : List D, (xs.flatMap fun d => (es.filter (c d)).map (f d)).length ≤ xs.length * es.length := by
    intro xs
    induction xs with
    | nil => simp
    | cons x xs ih =>
      rw [List.flatMap_cons, List.length_append, List.length_map, List.length_cons, Nat.add_one_mul]
      have := List.length_filter_le (c x) es
      omega
  have hmul : ∀ j, j < ds.length → j * es.length + es.length ≤ sizeLine := fun j hj => by
    have h1 : (j + 1) * es.length ≤ ds.length * es.length := Nat.mul_le_mul_right _ hj
    rw [Nat.add_one_mul] at h1
    omega
  refine hli _ fun p hp => ⟨fun j acc G' => acc = (ds.take j).flatMap (fun d => (es.filter (c d)).map (f d)) ∧ G' = gup G p (.lst acc), ⟨rfl, rfl⟩, ?_, ?_⟩
  · rintro j d acc G' hd ⟨rfl, rfl⟩
    have hj := (List.getElem?_eq_some_iff.mp hd).1
    simp only [gName3, tYes3, if_true]
    refine hli1 j d _ hd (fun a o h => by rw [gup_ne (g_ne h hp)]; exact h) _ ?_
    refine ⟨fun k acc G' => acc = (ds.take j).flatMap (fun d => (es.filter (c d)).map (f d)) ++ ((es.take k).filter (c d)).map (f d) ∧ G' = gup G p (.lst acc), ⟨by simp, rfl⟩, ?_, ?_⟩
    · rintro k e acc G' hk ⟨rfl, rfl⟩
      have hk' := (List.getElem?_eq_some_iff.mp hk).1
      have hG : ∀ a o, G a = some o → gup G p (.lst ((ds.take j).flatMap (fun d => (es.filter (c d)).map (f d)) ++ ((es.take k).filter (c d)).map (f d))) a = some o := fun a o h => by rw [gup_ne (g_ne h hp)]; exact h
      refine ht j d k e _ hd hk hG _ ?_
      cases ec : c d e with
      | true =>
        rw [if_pos rfl]
        refine he j d k e _ hd hk ec hG _ ⟨gup_same, ?_, ?_, by rw [gup_gup]⟩
        · have h2 := hlen (ds.take j)
          rw [List.length_take, Nat.min_eq_left (Nat.le_of_lt hj)] at h2
          have h3 := List.length_filter_le (c d) (es.take k)
          rw [List.length_take] at h3
          have h4 := hmul j hj
          rw [List.length_append, List.length_map]
          omega
        · rw [List.take_add_one, hk]; simp [ec]
      | false =>
        rw [if_neg Bool.false_ne_true]
        have e2 : (es.take (k + 1)).filter (c d) = (es.take k).filter (c d) := by rw [List.take_add_one, hk]; simp [ec]
        exact ⟨by rw [e2], rfl⟩
    · rintro acc G' ⟨rfl, rfl⟩
      refine ⟨?_, rfl⟩
      rw [List.take_length, List.take_add_one, hd]
      simp [List.flatMap_append]
  · rintro acc G' ⟨rfl, rfl⟩
    refine ⟨gup_same, ?_⟩
    rw [gdel_gup hp, List.take_length]
    exact q
end L3
end

section
set_option Elab.async false
set_option linter.all false
set_option maxRecDepth 100000
set_option maxHeartbeats 4000000
/-! L3hd: what the head tells of keyword-only defaults that are objects. -/
namespace L3
open PySem PySem.Spec PyProof.Rows L2
/-- the keyword-only default x of the def at f, if it is an object -/
def kwdAt (f : Str × Option Str) (x : Str) (K : PySem.W.Frag) : Addr := match K.lookup (He.fAd K f) with
  | some ⟨_, _, .func fd, _⟩ => (match fd.kwdefaults with
    | .ref D => (match PySem.W.nsIn K D x with
      | some (some (.ref a)) => a
      | _ => 0)
    | _ => 0)
  | _ => 0
/-- the empty tuple stands at a -/
def tup0B (K : PySem.W.Frag) (a : Addr) : Bool := match K.lookup a with
  | some ⟨.type c, _, .seq its _, _⟩ => decide (c = "tuple") && its.isEmpty
  | _ => false
theorem tup0_ok {K : PySem.W.Frag} {a : Addr} (h : tup0B K a = true) : TupK K a [] := by
  unfold tup0B at h
  cases q : K.lookup a with
  | none => rw [q] at h; cases h
  | some o =>
    obtain ⟨oc, od, dt, osl⟩ := o
    rw [q] at h
    cases oc with
    | type c =>
      cases dt with
      | seq its n =>
        obtain ⟨h1, h2⟩ := Bool.and_eq_true_iff.mp h
        have e : its = #[] := Array.isEmpty_iff.mp h2
        subst e
        exact ⟨_, _, n, q, by rw [of_decide_eq_true h1], rfl, by decide, .nil⟩
      | _ => cases h
    | _ => cases h
end L3
namespace L3
open PySem PySem.Spec PyProof.Rows L2
/-! ### a hook that looks at any places -/
abbrev AsF := (Addr → Option Obj) → List Addr
def frY (as : AsF) (g : Addr → Option Obj) : PySem.W.Frag := He.frT g (as g)
def obsY (as : AsF) (fa : List He.Fa) (fn : List He.DefD) (ts : List He.Tab) (tf : List He.Defn) (ex : PySem.W.Frag → Bool) (g : Addr → Option Obj) : He.AlX :=
  (He.obsT fa fn ts (frY as g), ex (frY as g) && He.tabsB g tf (frY as g))
theorem saysY_of {as : AsF} {fa : List He.Fa} {fn : List He.DefD} {ts : List He.Tab} {tf : List He.Defn} {ex : PySem.W.Frag → Bool} {w : World} {h : Heap} (e : obsY as fa fn ts tf ex h.get? = He.valX fn ts w) : He.SaysX fa fn ts tf ex w h (frY as h.get?) := by
  obtain ⟨e1, e2⟩ := Prod.mk.inj e
  obtain ⟨h1, h2⟩ := He.ba e2
  have each : ∀ p ∈ tf, PySem.W.codeHdIn (frY as h.get?) (He.cT (frY as h.get?) p).1 (He.cT (frY as h.get?) p).2 = true ∧ ∃ o, h.get? (He.cT (frY as h.get?) p).2 = some o ∧ He.emptyTab o = true := fun p hp => by
    obtain ⟨h3, h4⟩ := He.ba (List.all_eq_true.mp h2 p hp)
    refine ⟨h3, ?_⟩
    revert h4
    cases h.get? (He.cT (frY as h.get?) p).2 with
    | none => exact fun z => nomatch z
    | some o => exact fun z => ⟨o, rfl, z⟩
  refine ⟨e1, h1, fun p hp => (each p hp).1, fun p hp => ?_, fun p hp => ?_⟩
  · obtain ⟨_, o, q, z⟩ := each p hp
    exact He.frT_none q z
  · obtain ⟨_, o, q, z⟩ := each p hp
    rw [q, He.emptyTab_eq z]
def hookY (as : AsF) (fa : List He.Fa) (fn : List He.DefD) (ts : List He.Tab) (tf : List He.Defn) (ex : PySem.W.Frag → Bool) : PySem.W.Hook where
  α := He.AlX
  obs := fun s => obsY as fa fn ts tf ex s.heap.get?
  val := fun w => He.valX fn ts w
  says := fun w h => ∃ K : PySem.W.Frag, K.In h ∧ He.SaysX fa fn ts tf ex w h K
  of := fun _ _ e => ⟨_, He.frT_in, saysY_of e⟩
  keeps := fun _ _ _ ⟨K, inK, c⟩ k => ⟨K, PySem.W.Frag.In.keeps inK k, c.t, c.more, c.hd, c.out, fun p hp => k _ _ (c.empty p hp)⟩
theorem obsY_eq {as : AsF} {fa : List He.Fa} {fn : List He.DefD} {ts : List He.Tab} {tf : List He.Defn} {ex : PySem.W.Frag → Bool} {g : Addr → Option Obj} {s : Shared} (h : ∀ a, g a = s.heap.get? a) : obsY as fa fn ts tf ex g = (hookY as fa fn ts tf ex).obs s := by
  rw [show g = s.heap.get? from funext h]
  rfl
/-- what is reached from the top, and the statics -/
def asS (n : Nat) : AsF := fun g => He.asD g n ++ [PySem.cStatics]
end L3
end

section
set_option Elab.async false
set_option linter.all false
set_option maxRecDepth 100000
set_option maxHeartbeats 0
namespace K69
open PySem PySem.Spec PyProof.Rows L2
def top (i : Nat) : Stmt := PySem.Challenge.pw_blocksearch_k69_disks_crash.main.body.getD i (.Pass ⟨0, 0, 0, 0⟩)
abbrev s_NoDeed___init__ : Stmt := inClass (top 9) 0
def d_NoDeed___init__ : He.DefD := ⟨("NoDeed", some "__init__"), "__init__", "NoDeed.__init__", defArgs s_NoDeed___init__, defBody s_NoDeed___init__, defScope s_NoDeed___init__, [.non], []⟩
abbrev s_is_name : Stmt := top 20
def d_is_name : He.DefD := ⟨("is_name", none), "is_name", "is_name", defArgs s_is_name, defBody s_is_name, defScope s_is_name, [], []⟩
abbrev s_most_pick : Stmt := top 21
def d_most_pick : He.DefD := ⟨("most_pick", none), "most_pick", "most_pick", defArgs s_most_pick, defBody s_most_pick, defScope s_most_pick, [], []⟩
abbrev s_changed : Stmt := top 22
def d_changed : He.DefD := ⟨("changed", none), "changed", "changed", defArgs s_changed, defBody s_changed, defScope s_changed, [], []⟩
abbrev s_Disk___init__ : Stmt := inClass (top 23) 0
def d_Disk___init__ : He.DefD := ⟨("Disk", some "__init__"), "__init__", "Disk.__init__", defArgs s_Disk___init__, defBody s_Disk___init__, defScope s_Disk___init__, [], []⟩
abbrev s_Disk___len__ : Stmt := inClass (top 23) 1
def d_Disk___len__ : He.DefD := ⟨("Disk", some "__len__"), "__len__", "Disk.__len__", defArgs s_Disk___len__, defBody s_Disk___len__, defScope s_Disk___len__, [], []⟩
abbrev s_Disk_twin : Stmt := inClass (top 23) 2
def d_Disk_twin : He.DefD := ⟨("Disk", some "twin"), "twin", "Disk.twin", defArgs s_Disk_twin, defBody s_Disk_twin, defScope s_Disk_twin, [], []⟩
abbrev s_Disk_as_done : Stmt := inClass (top 23) 3
def d_Disk_as_done : He.DefD := ⟨("Disk", some "as_done"), "as_done", "Disk.as_done", defArgs s_Disk_as_done, defBody s_Disk_as_done, defScope s_Disk_as_done, [], []⟩
abbrev s_Disk_write : Stmt := inClass (top 23) 4
def d_Disk_write : He.DefD := ⟨("Disk", some "write"), "write", "Disk.write", defArgs s_Disk_write, defBody s_Disk_write, defScope s_Disk_write, [], []⟩
abbrev s_Disk_erase : Stmt := inClass (top 23) 5
def d_Disk_erase : He.DefD := ⟨("Disk", some "erase"), "erase", "Disk.erase", defArgs s_Disk_erase, defBody s_Disk_erase, defScope s_Disk_erase, [], []⟩
abbrev s_Disk_read : Stmt := inClass (top 23) 6
def d_Disk_read : He.DefD := ⟨("Disk", some "read"), "read", "Disk.read", defArgs s_Disk_read, defBody s_Disk_read, defScope s_Disk_read, [], []⟩
abbrev s_Disk_names : Stmt := inClass (top 23) 7
def d_Disk_names : He.DefD := ⟨("Disk", some "names"), "names", "Disk.names", defArgs s_Disk_names, defBody s_Disk_names, defScope s_Disk_names, [], []⟩
abbrev s_Disk_waiting : Stmt := inClass (top 23) 8
def d_Disk_waiting : He.DefD := ⟨("Disk", some "waiting"), "waiting", "Disk.waiting", defArgs s_Disk_waiting, defBody s_Disk_waiting, defScope s_Disk_waiting, [], []⟩
abbrev s_Disk_flush : Stmt := inClass (top 23) 9
def d_Disk_flush : He.DefD := ⟨("Disk", some "flush"), "flush", "Disk.flush", defArgs s_Disk_flush, defBody s_Disk_flush, defScope s_Disk_flush, [], []⟩
abbrev s_Disk_look_picks : Stmt := inClass (top 23) 10
def d_Disk_look_picks : He.DefD := ⟨("Disk", some "look_picks"), "look_picks", "Disk.look_picks", defArgs s_Disk_look_picks, defBody s_Disk_look_picks, defScope s_Disk_look_picks, [], []⟩
abbrev s_Disk_crash : Stmt := inClass (top 23) 11
def d_Disk_crash : He.DefD := ⟨("Disk", some "crash"), "crash", "Disk.crash", defArgs s_Disk_crash, defBody s_Disk_crash, defScope s_Disk_crash, [], [("picks", .adr (L3.kwdAt ("Disk", some "crash") "picks"))]⟩
abbrev s__law_purse : Stmt := top 25
def d__law_purse : He.DefD := ⟨("_law_purse", none), "_law_purse", "_law_purse", defArgs s__law_purse, defBody s__law_purse, defScope s__law_purse, [], []⟩
abbrev s__law_take : Stmt := top 26
def d__law_take : He.DefD := ⟨("_law_take", none), "_law_take", "_law_take", defArgs s__law_take, defBody s__law_take, defScope s__law_take, [], []⟩
abbrev s__law_kind : Stmt := top 27
def d__law_kind : He.DefD := ⟨("_law_kind", none), "_law_kind", "_law_kind", defArgs s__law_kind, defBody s__law_kind, defScope s__law_kind, [], []⟩
abbrev s__law_row : Stmt := top 28
def d__law_row : He.DefD := ⟨("_law_row", none), "_law_row", "_law_row", defArgs s__law_row, defBody s__law_row, defScope s__law_row, [], []⟩
abbrev s__law_done : Stmt := top 29
def d__law_done : He.DefD := ⟨("_law_done", none), "_law_done", "_law_done", defArgs s__law_done, defBody s__law_done, defScope s__law_done, [], []⟩
abbrev s__law_full : Stmt := top 30
def d__law_full : He.DefD := ⟨("_law_full", none), "_law_full", "_law_full", defArgs s__law_full, defBody s__law_full, defScope s__law_full, [], []⟩
abbrev s__law_seen : Stmt := top 31
def d__law_seen : He.DefD := ⟨("_law_seen", none), "_law_seen", "_law_seen", defArgs s__law_seen, defBody s__law_seen, defScope s__law_seen, [], []⟩
abbrev s__law_how : Stmt := top 32
def d__law_how : He.DefD := ⟨("_law_how", none), "_law_how", "_law_how", defArgs s__law_how, defBody s__law_how, defScope s__law_how, [], []⟩
abbrev s__law_waiting : Stmt := top 33
def d__law_waiting : He.DefD := ⟨("_law_waiting", none), "_law_waiting", "_law_waiting", defArgs s__law_waiting, defBody s__law_waiting, defScope s__law_waiting, [], []⟩
abbrev s__law_picks : Stmt := top 34
def d__law_picks : He.DefD := ⟨("_law_picks", none), "_law_picks", "_law_picks", defArgs s__law_picks, defBody s__law_picks, defScope s__law_picks, [], []⟩
abbrev s__law_wrong : Stmt := top 35
def d__law_wrong : He.DefD := ⟨("_law_wrong", none), "_law_wrong", "_law_wrong", defArgs s__law_wrong, defBody s__law_wrong, defScope s__law_wrong, [], []⟩
abbrev s__law_is_so : Stmt := top 36
def d__law_is_so : He.DefD := ⟨("_law_is_so", none), "_law_is_so", "_law_is_so", defArgs s__law_is_so, defBody s__law_is_so, defScope s__law_is_so, [], []⟩
abbrev s_law : Stmt := top 37
def d_law : He.DefD := ⟨("law", none), "law", "law", defArgs s_law, defBody s_law, defScope s_law, [], []⟩
def fn : List He.DefD := [d_NoDeed___init__, d_is_name, d_most_pick, d_changed, d_Disk___init__, d_Disk___len__, d_Disk_twin, d_Disk_as_done, d_Disk_write, d_Disk_erase, d_Disk_read, d_Disk_names, d_Disk_waiting, d_Disk_flush, d_Disk_look_picks, d_Disk_crash, d__law_purse, d__law_take, d__law_kind, d__law_row, d__law_done, d__law_full, d__law_seen, d__law_how, d__law_waiting, d__law_picks, d__law_wrong, d__law_is_so, d_law]
def fa : List He.Fa := [.glo "is_name", .glo "most_pick", .glo "changed", .glo "_law_purse", .glo "_law_take", .glo "_law_kind", .glo "_law_row", .glo "_law_done", .glo "_law_full", .glo "_law_seen", .glo "_law_how", .glo "_law_waiting", .glo "_law_picks", .glo "_law_wrong", .glo "_law_is_so", .glo "law", .free "len", .free "isinstance", .free "all", .free "range", .free "abs", .free "min", .free "max", .free "int", .free "list", .free "tuple", .free "enumerate", .free "zip", .free "repr", .free "str", .free "bool", .free "dict", .free "sorted", .str "SIGNS" "abcdefghijklmnopqrstuvwxyz0123456789.", .int "LONGEST" 12, .glo "Disk", .cls "Disk", .mkr "Disk", .noat "Disk" "files", .noat "Disk" "queue", .meth "Disk" "__init__", .meth "Disk" "__len__", .meth "Disk" "twin", .meth "Disk" "as_done", .meth "Disk" "write", .meth "Disk" "erase", .meth "Disk" "read", .meth "Disk" "names", .meth "Disk" "waiting", .meth "Disk" "flush", .meth "Disk" "look_picks", .meth "Disk" "crash"]
def names : List PySem.Str := (["Wrong", "NoText", "NoNumber", "NoSize", "NoQuery", "NoPages", "NoName", "NoShelf", "NoDeed", "Taken", "NoSlot", "Gone", "NoFile", "Torn", "Broken", "Full", "SIGNS", "LONGEST", "is_name", "most_pick", "changed", "Disk", "_law_purse", "_law_take", "_law_kind", "_law_row", "_law_done", "_law_full", "_law_seen", "_law_how"] : List PySem.Str) ++ (["_law_waiting", "_law_picks", "_law_wrong", "_law_is_so"] : List PySem.Str)
abbrev R : PySem.W.OpenRow := PySem.W.OpenLaw.row PySem.Challenge.rw_blocksearch_k69_disks_crash
abbrev hk : PySem.W.Hook := He.hookD 4 fa fn
def ob (s : PySem.W.SharedT) : He.AlD := He.obsDG 4 fa fn (HandSHeadRun.getT s)
theorem ob_eq (s : PySem.W.SharedT) : ob s = hk.obs s.abs := He.obsDG_eq (HandSHeadRun.getT_eq s)
def lawI : Nat := 37
end K69
end

section
set_option Elab.async false
set_option linter.all false
set_option maxRecDepth 100000
set_option maxHeartbeats 4000000
/-! L3x: raise, try, calls that raise; what is called where an exception is handled. -/
namespace L3
open PySem PySem.Spec PyProof.Rows L2

/-- what is wished of an exception without fields: its class, the names' state, the things -/
abbrev W3 := Addr → T3 → Gp → Prop
def wB (K : PySem.W.Frag) (B : BT) (w : W3) : WX := fun cls d σ H => ∃ (C : Addr) (Fz : Addr → Prop) (τ : T3) (G : Gp), cls = .ref C ∧ d = none ∧ Rel K B τ G Fz σ H ∧ w C τ G
def sRaise (C : Addr) (w : W3) : TS3 := fun _ τ G => w C τ G
/-- what is known of an own exception class without __init__, as raise asks it -/
structure OwnX (X : Cx) (x : Str) (C : Addr) : Prop where
  ex : ∃ (bmB : List Value) (B newId initId : String), ExcBaseFacts B newId initId bmB ∧ PySem.W.excIn X.K C bmB newId = true
  gC : X.mg x = some (.ref C)
  kC : PySem.W.keepIn X.K (.ref C) = true
  rs : Raises X (.ref C)
section
variable {X : Cx} {B : BT} {x : Str} {C : Addr} {p pos pos' : Pos} {w : W3}
theorem pmk_ownN (O : OwnX X x C) (hg : Gl X x) (hdb : (x == ("__debug__" : Str)) = false := by decide) : L2N.PMk X (.Call (.Name x p) [] [] pos) (fun _ H Q => Q (.ref C) none H) := by
  intro pins s σ H Q I hQ
  obtain ⟨bmB, Bn, newId, initId, F, q⟩ := O.ex
  refine wpAny_Call_Name_kw (ld_glob I hg O.gC ?_ hdb)
  have fin : wpAny (model X.prog X.w) X.A (call (.ref C) []) (L2N.MkP X pins σ Q) X.xe s := by
    obtain ⟨bm, N, nm, qn, bs, hdct, sn, sub, ab, col, dd, k0, k1, k2, k3, k5, mN, hC, hN, hni, T⟩ := exc_obj I.kIn q
    refine wpAny_call_exc_subT F T hC hN hni (fun h' e hm => ?_) (by show 0 ≤ sizeLine; omega)
    exact L2N.mk_of I hm O.rs hQ (I.hok.gone hm.new)
  exact PySem.W.callWith_K0 I.kIn O.kC fin
theorem ls_raise (hc : X.calm = true) (tk : L2N.Takes X (wB X.K B w)) (O : OwnX X x C) (hg : Gl X x := by rfl) (hdb : (x == ("__debug__" : Str)) = false := by decide) :
    LS X B (.Raise (some (.Call (.Name x p) [] [] pos)) none pos') (sRaise C w) :=
  (L2N.ps_raise hc tk (pmk_ownN O hg hdb)).imp fun D σ H ⟨Fz, tv, τ, G, D3, hB, r, ht, k⟩ => ⟨C, Fz, τ, G, rfl, rfl, r.sub hB, ht⟩
end

/-- a promise to raise, by data -/
abbrev SpX := List D → Gp → (Addr → Gp → Prop) → Prop
def lowX (K : PySem.W.Frag) (sp : SpX) : Sp := fun vs H _ E => ∃ (Fz : Addr → Prop) (tv : BT) (ds : List D) (G : Gp) (w : Addr → Gp → Prop), HRel K Fz H G ∧ (∀ p ∈ tv, Rep K Fz H p.1 p.2) ∧ Reps K Fz H vs ds ∧ sp ds G w ∧
  ∀ C H' Fz' G', HRel K Fz' H' G' → (∀ p ∈ tv, Rep K Fz' H' p.1 p.2) → w C G' → E (.ref C) none H'
structure CalX (P : Program) (w : World) (K : PySem.W.Frag) (mg : Str → Option Value) (base : Heap) (x : Str) (k : Nat) (sp : SpX) : Prop where
  ex : ∃ (f : Addr) (fd : FuncData) (ps : List Str), mg x = some (.ref f) ∧ PySem.W.keepIn K (.ref f) = true ∧ FnOk P w K mg base (L2N.CX P w) k f fd ps (lowX K sp) ∧ Binds K fd ps []
def lCallX (sp : SpX) (w : W3) (t : TA3) : TE3 := fun τ G _ => t τ G fun ds G1 => sp ds G1 fun C G' => w C τ G'
theorem Rel.unset {K : PySem.W.Frag} {tv : BT} {τ : T3} {G : Gp} {Fz : Addr → Prop} {σ : L2.St} {H : Hp} (r : Rel K tv τ G Fz σ H) (i : Nat) : Rel K tv (τ.set i none) G Fz (σ.set i none) H := by
  refine r.slots (by rw [List.length_set, List.length_set, r.len]) fun j d e => ?_
  rw [List.getElem?_set] at e
  by_cases hj : i = j
  · rw [if_pos hj] at e
    split at e <;> cases e
  · rw [if_neg hj] at e
    obtain ⟨v, hv, rv⟩ := r.slot j d e
    exact ⟨v, by rw [List.getElem?_set_ne hj]; exact hv, rv⟩
section
variable {X : Cx} {B : BT} {x : Str} {k : Nat} {sp : SpX} {p pos : Pos} {e : Expr} {es : List Expr} {t : TA3} {w : W3}
theorem le_callX (C : CalX X.prog X.w X.K X.mg X.base x k sp) (hr : Room k X.A) (tk : L2N.Takes X (wB X.K B w)) (ha : LA X B (e :: es) t) (hg : Gl X x := by rfl) (hdb : (x == ("__debug__" : Str)) = false := by decide)
    (he : starEach (e :: es) X.env = (false, eval e X.env) :: starEach es X.env := by rfl) (hpl : (backTo pos (starEach es X.env)).any (·.1) = false := by rfl) : LE X B (.Call (.Name x p) (e :: es) [] pos) (lCallX sp w t) := by
  obtain ⟨f, fd, ps, hm, hk, F, hb⟩ := C.ex
  exact (pe_callS (E := fun σ => WE (wB X.K B w) σ) F hr hg hm hk hb (fun σ => L2N.passAt tk σ) ha hdb he hpl).imp fun σ H Q ⟨Fz, tv, τ, G, Q3, hB, r, ht, k⟩ => embA.mk hB r ht fun vs H1 Fz1 ds G1 rs r1 h1 =>
    ⟨Fz1, slotsL σ τ ++ tv, ds, G1, _, r1.hr, fun p hp => (List.mem_append.mp hp).elim (r1.slots_rep p) (r1.tmp p), rs, h1, fun C H' Fz' G' hr' tm hw =>
      ⟨C, Fz', τ, G', rfl, rfl, (r1.again hr' (fun p hp => tm p (List.mem_append_left _ hp)) fun p hp => tm p (List.mem_append_right _ hp)).sub hB, hw⟩⟩
end

/-- a def that raises, by its body -/
theorem fnX_ok {P : Program} {w : World} {K : PySem.W.Frag} {mg : Str → Option Value} {base : Heap} {x qual : Str} {params : Arguments} {body : List Stmt} {scope : Scope} {dvs : List V} {kws : List (Str × V)} {f : Addr} {fd : FuncData} {N ps : List Str} {k : Nat} {sp : SpX}
    (F : FunD K x qual params body scope dvs kws f fd) (S : FnScope N ps scope) (len : ∀ ds G w, sp ds G w → ds.length = ps.length)
    (hbody : ∀ (cdv : Value) (A : Around) (outer : List Env) (s : Shared) (H : Hp) (E : XK) (B : BT) (w3 : W3), Room k (A.deeper (envOfC qual scope s.heap.objs.size f cdv)) → L2N.Takes (cxOf (L2N.CX P w) P w K mg base N qual scope f cdv A outer s H E) (wB K B w3) →
      ∃ t, LB (cxOf (L2N.CX P w) P w K mg base N qual scope f cdv A outer s H E) B body t ∧ ∀ ds G, sp ds G (fun C G' => ∀ τ, w3 C τ G') → t { nx := fun _ _ => False, rt := fun _ _ => False } (start3 N ds) G) : FnOk P w K mg base (L2N.CX P w) (k + 1) f fd ps (lowX K sp) := by
  refine F.ok S (fun vs H Q E h => ?_) fun cdv A outer s H vs Q E hr h => ?_
  · obtain ⟨Fz, tv, ds, G, w3, _, _, rs, h, _⟩ := h
    rw [rs.len]
    exact len ds G w3 h
  · obtain ⟨Fz, tv, ds, G, w3, h1, h2, rs, h, kk⟩ := h
    have tk : L2N.Takes (cxOf (L2N.CX P w) P w K mg base N qual scope f cdv A outer s H E) (wB K tv fun C _ G' => w3 C G') :=
      (L2N.takes_of (E := E) rfl rfl rfl rfl).imp fun c d σ H' ⟨C, Fz', τ', G', ec, ed, r', hw⟩ => by
        subst ec ed
        exact kk C H' Fz' G' r'.hr (fun p hp => r'.tmp p hp) hw
    obtain ⟨t, ht, hq⟩ := hbody cdv A outer s H E tv _ hr tk
    refine ⟨_, ht, Fz, tv, start3 N ds, G, { nx := fun _ _ => False, rt := fun _ _ => False }, fun p hp => hp, start_rel N h1 h2 rs, hq ds G ?_, ?_⟩
    · have e : (fun (C : Addr) (G' : Gp) => ∀ _ : T3, w3 C G') = w3 := by
        funext C G'
        exact propext ⟨fun z => z [], fun z _ => z⟩
      rw [e]
      exact h
    · exact ⟨fun _ _ _ _ _ _ q => q.elim, fun _ _ _ _ _ _ _ _ q => q.elim, fun _ _ _ _ _ _ q => q.elim, fun _ _ _ _ _ _ q => q.elim⟩

/-- try: body, except x as n: suite; the slot of n is i, x is the class at C0 -/
def sTry (K : PySem.W.Frag) (C0 : Addr) (i : Nat) (tb : W3 → TS3) (ts : Addr → Addr → TS3) : TS3 := fun D τ G =>
  tb (fun C τ' G' => PySem.W.exmOne K (.ref C) (.ref C0) = some true ∧ ∀ a, G' a = none →
    ts a C { nx := fun τ2 G2 => D.nx (τ2.set i none) G2, rt := D.rt, bk := fun τ2 G2 => D.bk (τ2.set i none) G2, ct := fun τ2 G2 => D.ct (τ2.set i none) G2 } (τ'.set i (some (.ref a))) G') D τ G
section
variable {X : Cx} {B : BT} {x n : Str} {C0 : Addr} {i : Nat} {body suite : List Stmt} {b₀ : Stmt} {np pos pos' : Pos} {tb : W3 → TS3} {ts : Addr → Addr → TS3}
theorem ls_try (hs : X.stack = X.env :: X.outer) (hf : X.env.frame = some X.env.locals) (hN : X.N.Nodup) (hc : Names X x (.ref C0))
    (hb : ∀ (w : W3) (B : BT) (pn : List (Addr × Obj)) (xe : Value → Shared → Prop), L2N.Takes (X.tr pn xe) (wB X.K B w) → LB (X.tr pn xe) B body (tb w))
    (hsu : ∀ (a : Addr) (oe : Obj) (C : Addr) (pn : List (Addr × Obj)), L2N.Zn (.ref C) none oe → (∃ vs, oe.data = .fields vs) → LB (X.suite a ((a, oe) :: pn)) [] (b₀ :: suite) (ts a C))
    (hi : X.N[i]? = some n := by rfl) (hln : X.env.kindOf n = some .local := by rfl) :
    LS X B (.Try body [.ExceptHandler (some (.Name x np)) (some n) (b₀ :: suite) pos'] [] [] pos) (sTry X.K C0 i tb ts) := by
  have base := L2N.ps_try_as (Wout := fun _ _ _ _ => False) (tb := fun W D σ H => ∃ Fz tv τ G D3 w, Rel X.K tv τ G Fz σ H ∧ tb w D3 τ G ∧ SubE X.K tv D3 D ∧ ∀ cls d σ' H', wB X.K tv w cls d σ' H' → W cls d σ' H')
    (ts := fun a cls d D σ H => ∃ C, cls = .ref C ∧ d = none ∧ embS X.K [] (ts a C) D σ H) (np := np) (pos := pos) (pos' := pos') (suite := suite) (b₀ := b₀) (body := body) hs hf hN hi hln hc (fun _ _ ⟨_, _, _, _, _, _, _, _, _, _, _, _, _, _, _, _, z⟩ => z.elim)
    (fun W pn xe tk _ => ⟨fun pins s σ H D I ⟨Fz, tv, τ, G, D3, w, r, ht, k, hw⟩ => (hb w tv pn xe (tk.imp hw)).run pins s σ H D I ⟨Fz, tv, τ, G, D3, fun p hp => hp, r, ht, k⟩⟩)
    (fun a oe cls d pn hz hfl => ⟨fun pins s σ H D I ⟨C, ec, ed, h⟩ => by subst ec ed; exact (hsu a oe C pn hz hfl).run pins s σ H D I h⟩)
  refine base.imp fun D σ H ⟨Fz, tv, τ, G, D3, hB, r, ht, k⟩ => ⟨Fz, tv, τ, G, D3, _, r, ht, k, fun cls d σ' H' ⟨C, Fz', τ', G', ec, ed, r', hx, hy⟩ => ?_⟩
  subst ec ed
  refine ⟨true, hx, fun _ a ha => ⟨C, rfl, rfl, Fz', tv, _, G', _, fun p hp => absurd hp (by simp), r'.set (.ref a) i, hy a (r'.hr.free ha), ?_⟩, fun z => by cases z⟩
  exact ⟨fun σ2 τ2 G2 Fz2 H2 r2 q => k.nx _ _ G2 Fz2 H2 (r2.unset i) q, fun d G2 v H2 Fz2 σ2 τ2 r2 q => k.rt d G2 v H2 Fz2 σ2 τ2 r2 q, fun σ2 τ2 G2 Fz2 H2 r2 q => k.bk _ _ G2 Fz2 H2 (r2.unset i) q, fun σ2 τ2 G2 Fz2 H2 r2 q => k.ct _ _ G2 Fz2 H2 (r2.unset i) q⟩
end
end L3
end

section
set_option Elab.async false
set_option linter.all false
set_option maxRecDepth 100000
set_option maxHeartbeats 4000000
/-! L3y: a list comprehension over a text, where an exception is handled. -/
namespace L3
open PySem PySem.Spec PyProof.Rows L2 HotX

section
variable {prog : Program} {w : World} {A : Around} {E : Value → Shared → Prop} {s : Shared}
/-- a text's iterator at its end, an exception being handled -/
theorem asciiEndHot {it x1 : Addr} {x : Str} {t : Tok} {i : Nat} {Q : Option Value → Shared → Prop} (hot : HotAt A x1 s.heap) (st : s.heap.IsStrIter it "str_ascii_iterator" x t i) (hx : x.cps[i]? = none) (hne : x1 ≠ it)
    (hQ : ∀ h', Heap.ExtBut it s.heap h' → Q none { s with heap := h' }) : wpAny (model prog w) A (pyNext (.ref it)) Q E s := by
  obtain ⟨o, ho, hc, hd⟩ := id st
  obtain ⟨hh, o1, vs1, h1, d1, c1⟩ := hot
  unfold pyNext
  refine wpAny_bind (wpAny_attempt (wpAny_callSpecial?_slot (name := Str.ofString "__next__") st.typeIs F.slot_str_ascii_iterator_next (wpAny_call_entry F.slot_str_ascii_iterator_next st.typeIs F.entry_str_ascii_iterator_next ?_ (F.args_str_ascii_iterator_next_1 _))))
  show wpAny _ _ (field (.ref it) 0 >>= fun _ => _) _ _ s
  refine wpAny_bind (wpAny_field (x := .str x t) ho hd rfl ?_)
  show wpAny _ _ (field (.ref it) 1 >>= fun _ => _) _ _ s
  refine wpAny_bind (wpAny_field (x := .int i 0) ho hd rfl ?_)
  simp only [hx, Int.toNat_natCast]
  refine wpAny_bind (wpAny_rule (wpAny_bind (wpAny_setField ho hd (by simp) (wpAny_bind (wpAny_letGo ?_)))))
  show wpAny _ _ (newExc (.type "StopIteration") [] >>= fun _ => _) _ _ _
  refine wpAny_bind ?_
  simp only [newTuple, newExc]
  refine wpAny_bind (wpAny_newObj_type ?_ (by size_fits))
  refine wpAny_bind (m := firstArgMember _ _) (wpAny_of_eq (a := Value.none) (by first | (simp only [firstArgMember]; rfl) | rfl) ?_)
  refine wpAny_newObj_type ?_ (by size_fits)
  have g1 : (s.heap.update it (Obj.mapFields fun vs => vs.setIfInBounds 0 .none)).get? x1 = some o1 := by rw [Heap.get?_update_other _ _ (Ne.symm hne)]; exact h1
  refine raiseNew_hot (x1 := x1) ⟨hh, o1, vs1, Heap.get?_push_of_some _ (Heap.get?_push_of_some _ g1), d1, c1⟩ (Nat.ne_of_lt (Heap.lt_size (Heap.get?_push_of_some _ g1))) (Heap.get?_push_size _ rfl) rfl (by first | (simp; done) | (simp; omega) | (simp only [Array.size_append]; simp; omega)) ?_
  refine wpAny_bind (wpAny_isInstance (b := true) (T := "StopIteration") ⟨_, Heap.get?_update_self _ (Heap.get?_push_size _ rfl) rfl, rfl⟩ isSubtype_stop ?_)
  refine wpAny_pure (hQ _ ?_)
  intro b o' hb e
  have e1 : (s.heap.update it (Obj.mapFields fun vs => vs.setIfInBounds 0 .none)).get? b = some o' := by rw [Heap.get?_update_other _ _ (Ne.symm hb)]; exact e
  rw [Heap.get?_update_other _ _ (Nat.ne_of_gt (Heap.lt_size (Heap.get?_push_of_some _ e1)))]
  exact Heap.get?_push_of_some _ (Heap.get?_push_of_some _ e1)
end

/-- an iterator over an ASCII text, as a walk takes it where an exception is handled -/
def AscI (x : Str) (t : Tok) (it : Addr) (i : Nat) (h : Heap) : Prop := h.IsStrIter it "str_ascii_iterator" x t i
section
variable {X : Cx} {pins : List (Addr × Obj)} {σ : L2.St} {H : Hp} {s : Shared} {x : Str} {t : Tok} {it : Addr} {i : Nat} {tg : Expr} {E : Value → Shared → Prop}
theorem asc_keep {h h' : Heap} (a : AscI x t it i h) (k : ∀ o, h.get? it = some o → h'.get? it = some o) : AscI x t it i h' := let ⟨o, ho, r⟩ := a; ⟨o, k o ho, r⟩
theorem asc_there {h : Heap} (a : AscI x t it i h) : ∃ o, h.get? it = some o ∧ ∀ v, o.data ≠ .cell v := let ⟨o, ho, _, d⟩ := a; ⟨o, ho, fun v z => by rw [d] at z; cases z⟩
theorem asc_item (J : Inv X pins σ H s) (fo : FpOk X pins H it) (a : AscI x t it i s.heap) (hi : i < x.cps.size) :
    wpAny (model X.prog X.w) X.A (pyNext (.ref it)) (fun r s1 => ∃ u, r = some u ∧ wpAny (model X.prog X.w) X.A (letOwnedTupleGo tg (.ref it) u) (fun _ s2 => ∃ y, Inv X pins σ H s2 ∧ RelV y u ∧ (Its x).yld i H y H ∧ AscI x t it (i + 1) s2.heap) E s1) E s := by
  obtain ⟨f0, f1, f2, f3, f4, f5⟩ := fo
  refine wpAny_pyNext_ascii_item (c := x.cps[i]) a (by simp [hi]) fun h' a' sb => ⟨_, rfl, ?_⟩
  have J1 : Inv X pins σ H { s with heap := h', toks := s.toks + 1 } := J.turned (fun b o hb e => sb.extBut b o hb e) f0 f1 f3 f4 f5
  obtain ⟨o, e, cc, dd⟩ := id a'
  exact go_of (s := { s with heap := h', toks := s.toks + 1 }) e cc dd (by decide) ⟨.str ⟨#[x.cps[i]]⟩, J1, ⟨_, rfl⟩, ⟨rfl, x.cps[i], by simp [hi], rfl⟩, a'⟩
theorem asc_done {x1 : Addr} (hot : HotAt X.A x1 s.heap) (hne : x1 ≠ it) (J : Inv X pins σ H s) (fo : FpOk X pins H it) (a : AscI x t it i s.heap) (hi : x.cps.size ≤ i) :
    wpAny (model X.prog X.w) X.A (pyNext (.ref it)) (fun r s1 => r = none ∧ Inv X pins σ H s1) E s := by
  obtain ⟨f0, f1, f2, f3, f4, f5⟩ := fo
  exact asciiEndHot hot a (Array.getElem?_eq_none hi) hne fun h' eb => ⟨rfl, J.turned (t' := s.toks) (fun b o hb e => eb b o hb e) f0 f1 f3 f4 f5⟩
end

section
variable {X : Cx} {tg elt : Expr} {x : Str} {scope : Scope} {own : List (Str × Nat)} {pos ipos : Pos} {ik : Nat} {g : TG} {te : TE} {tt : TT}
/-- [elt for target in 'text'], the text written and ASCII -/
theorem pe_lcHot (hc : L2H.HotC X) (hN : X.N.Nodup) (hasc : x.cps.all (· < 128) = true) (ok : BlkOk X.N X.env.scope scope own)
    (hg : ∀ (s : Shared) (H : Hp) (C : Addr) (cl : List (Str × Addr)) (fp : List Addr), PG (X.blk s H scope (compEnvC scope cl C X.env) fp) tg g)
    (ht : ∀ (s : Shared) (H : Hp) (C : Addr) (cl : List (Str × Addr)) (fp : List Addr), PTs (X.blk s H scope (compEnvC scope cl C X.env) fp) [] tt)
    (he : ∀ (s : Shared) (H : Hp) (C : Addr) (cl : List (Str × Addr)) (fp : List Addr), PE (X.blk s H scope (compEnvC scope cl C X.env) fp) elt te)
    (hs : ∀ z, foldedSetIterable (.Constant (.str x) ik ipos) X.env z = pure z := by intro _; rfl) :
    PE X (.ListComp elt [⟨tg, .Constant (.str x) ik ipos, [], 0⟩] scope pos) (tLc (iStr (tC (.str x))) g tt te (own.map (·.2))) := by
  refine ⟨fun pins s σ H Q I0 h0 => ?_⟩
  rw [eval_ListComp]
  have closed : ∀ y ∈ scope.names, y.2 = .free → ∃ c, X.env.cells.lookup y.1 = some c := fun y hy e => (ok.free y hy e).elim (fun k => I0.ok.has _ (.inl k)) fun k => I0.ok.has _ (.inr k)
  obtain ⟨z0, ez, h1⟩ := h0
  have ez : x = z0 := V.str.inj ez
  subst ez
  refine wpAny_comprehension_free (use := none) rfl hs (closure_ok closed) ok.kind (fun y hy e => by rw [ok.uniq y hy, e]) (thn ((pe_str (X := X) (x := x) (j := ik) (pos := ipos)).run pins s σ H (fun v H' => v = .str x ∧ H' = H) I0 ⟨rfl, rfl⟩) fun xv s1 hx => ?_)
  obtain ⟨v1, H1, I1, r1, ev, eH⟩ := hx
  subst ev eH
  obtain ⟨t, rfl⟩ := r1
  refine wpAny_pyIter_ascii hasc ?_
  -- the iterator stands at its place
  generalize hit : s1.heap.objs.size = it
  generalize hs2 : ({ s1 with heap := s1.heap.push { cls := .type "str_ascii_iterator", data := .fields #[.str x t, .int 0 0] } } : Shared) = s2
  have I2 : Inv X pins σ H1 s2 := by
    rw [← hs2]
    exact I1.kept (t' := s1.toks) fun b o e => Heap.get?_push_of_some _ e
  have a2 : AscI x t it 0 s2.heap := by
    rw [← hs2, ← hit]
    exact ⟨_, Heap.get?_push_size _ rfl, rfl, rfl⟩
  have f2 : FpOk X pins H1 it := I1.fpOk (Nat.le_of_eq hit) (I1.hok.fresh (Nat.le_of_eq hit))
  refine wpAny_newObj_type (newEnv_comp ?_) (by show 0 ≤ sizeLine; decide)
  generalize hD : s2.heap.objs.size = L
  obtain ⟨W, ⟨m0, w0⟩, turn⟩ := h1 L (I2.hok.fresh (Nat.le_of_eq hD))
  generalize hs3 : ({ s2 with heap := s2.heap.push { cls := .type "list", data := .seq ([] : List Value).toArray } } : Shared) = s3
  have e3 : s3.heap = s2.heap.push { cls := .type "list", data := .seq ([] : List Value).toArray } := by rw [← hs3]
  generalize hH3 : upd H1 L (.lst []) = H3 at w0
  have I3 : Inv X pins σ H3 s3 := by
    rw [← hs3, ← hH3]
    refine I2.laid (t' := s2.toks) (fun b o e => Heap.get?_push_of_some _ e) (Nat.le_of_eq hD) ⟨Nat.zero_le _, [], 0, .nil, ?_⟩
    rw [← hD]
    exact Heap.get?_push_size _ rfl
  have itlt : it < s2.heap.objs.size := let ⟨_, e, _⟩ := asc_there a2; Heap.lt_size e
  have f3 : FpOk X pins H3 it := ⟨by rw [← hH3, upd_ne (by rw [← hD]; exact Nat.ne_of_lt itlt)]; exact f2.1, f2.2⟩
  have a3 : AscI x t it 0 s3.heap := asc_keep a2 fun o e => by rw [e3]; exact Heap.get?_push_of_some _ e
  have I4 := block_start (fp := [it]) I3 ok hN fun b hb => by
    have eb : b = it := by simpa using hb
    rw [eb]
    exact ⟨f3, by rw [e3, Heap.size_push]; exact Nat.lt_succ_of_lt itlt⟩
  have pg := hg s3 H3 s3.heap.objs.size (cellsFrom (s3.heap.objs.size + 1) scope.names (cloFrom X.env.cells scope.names [])) [it]
  have pt := ht s3 H3 s3.heap.objs.size (cellsFrom (s3.heap.objs.size + 1) scope.names (cloFrom X.env.cells scope.names [])) [it]
  have pe := he s3 H3 s3.heap.objs.size (cellsFrom (s3.heap.objs.size + 1) scope.names (cloFrom X.env.cells scope.names [])) [it]
  show codeAny _ _ (.compStart (.ListComp elt [⟨tg, .Constant (.str x) ik ipos, [], 0⟩] scope pos) 0 (.ref it) (.ref L) (compEnvC scope (cellsFrom (s3.heap.objs.size + 1) scope.names (cloFrom X.env.cells scope.names [])) s3.heap.objs.size X.env)) (compPost (model X.prog X.w) X.A X.xe none _ (.ref L) s3.heap.objs.size) { s3 with heap := pushCells (s3.heap.push { cls := .type "dict", data := .dict #[] }) scope.names }
  generalize hce : compEnvC scope (cellsFrom (s3.heap.objs.size + 1) scope.names (cloFrom X.env.cells scope.names [])) s3.heap.objs.size X.env = ce at I4 pg pt pe ⊢
  have cL : ce.locals = s3.heap.objs.size := by subst hce; rfl
  generalize hs4 : ({ s3 with heap := pushCells (s3.heap.push { cls := .type "dict", data := .dict #[] }) scope.names } : Shared) = s4 at I4 ⊢
  have a4 : AscI x t it 0 s4.heap := asc_keep a3 fun o e => by rw [← hs4]; exact pushCells_keeps _ _ _ _ (Heap.get?_push_of_some _ e)
  -- the handled exception as the block sees it
  obtain ⟨pp, ⟨hh, vp, ep, cp⟩, mp⟩ := hc
  have pin := I3.pin pp (List.mem_append_left _ mp)
  have ppS : pp.1 ∉ frs X.stack := fun hm => (List.mem_cons.mp (I3.stkSub pp.1 hm)).elim pin.2.2.1 pin.2.2.2.1
  have ppI : pp.1 ≠ it := f3.2.2.2.2.2 pp (List.mem_append_left _ mp)
  have hotB : ∀ {σ' : L2.St} {H' : Hp} {s' : Shared}, Inv (X.blk s3 H3 scope ce [it]) [] σ' H' s' → HotAt (X.blk s3 H3 scope ce [it]).A pp.1 s'.heap := fun {σ' H' s'} J =>
    ⟨hh, pp.2, vp, J.base.keep pp.1 pp.2 pin.1 pin.2.1 ppS (by simpa using ppI), ep, cp⟩
  have foB : ∀ {σ' : L2.St} {H' : Hp} {s' : Shared}, Inv (X.blk s3 H3 scope ce [it]) [] σ' H' s' → H' it = none → FpOk (X.blk s3 H3 scope ce [it]) [] H' it := fun {σ' H' s'} J n =>
    ⟨n, (J.ok.exf it (by simp)).1, J.ok.exfs it (by simp), .inl (by simp), fun y c e => (J.ok.exf it (by simp)).2 y c e, fun q hq => absurd (show q ∈ ([] : List (Addr × Obj)) ++ [] from hq) (by simp)⟩
  have loop : codeAny (model X.prog X.w) X.A (.compLoop (.ListComp elt [⟨tg, .Constant (.str x) ik ipos, [], 0⟩] scope pos) 0 (.ref it) (.ref L) ce) (compPost (model X.prog X.w) X.A X.xe none (EP X pins σ Q) (.ref L) s3.heap.objs.size) s4 := by
    refine compLoop_any (fun n s' => ∃ j H', Inv (X.blk s3 H3 scope ce [it]) [] (wipe σ (own.map (·.2))) H' s' ∧ AscI x t it j s'.heap ∧ H' it = none ∧ W j n H') ?_ m0 ⟨0, H3, I4, a4, f3.1, w0⟩
    rintro n s5 ⟨j, H5, I5, a5, n5, w5⟩
    rcases turn j n H5 w5 with ⟨stop, qq⟩ | ⟨go, Nx, hNx, step⟩
    · refine thnF (asc_done (X := X.blk s3 H3 scope ce [it]) (E := fun _ _ => False) (hotB I5) ppI I5 (foB I5 n5) a5 stop) fun r s6 ⟨hr, I6⟩ => ?_
      subst hr
      have I7 : Inv X pins σ H5 s6 := I3.call' (ch := [it]) I6.os I6.base I6.hok I6.bare fun b hb => by
        have eb : b = it := by simpa using hb
        rw [eb]
        exact ⟨f3.2.2.2.1, f3.2.1, f3.2.2.2.2.1, f3.2.2.2.2.2⟩
      have nC : H5 s3.heap.objs.size = none := by
        have z : H5 ce.locals = none := I6.free
        rwa [cL] at z
      obtain ⟨m, hn, _⟩ := I6.loc
      have hn : s6.heap.Ns ce.locals m := hn
      rw [cL] at hn
      refine ⟨m, hn, fun h'' sb => ?_⟩
      obtain ⟨c0, c1, c2, c3, c4, c5⟩ := I3.fpOk (H' := H5) (Nat.le_refl _) nC
      exact ⟨.ref L, H5, I7.turned (t' := s6.toks) (fun b o hb e => (sb.2 b hb).trans e) c0 c1 c3 c4 c5, rfl, qq⟩
    · refine thnF (asc_item (X := X.blk s3 H3 scope ce [it]) (E := fun _ _ => False) (tg := tg) I5 (foB I5 n5) a5 go) fun r s6 ⟨u, hr, h6⟩ => ?_
      subst hr
      refine thnF h6 fun _ s7 ⟨y, I7, r7, y7, a7⟩ => ?_
      have I7p := I7.pinned (fp := [it]) (fun b hb => by have eb : b = it := by simpa using hb
                                                         rw [eb]; exact foB I7 n5) (fun b hb => by have eb : b = it := by simpa using hb
                                                                                                   rw [eb]; exact asc_there a7)
      refine thnF (pg.run _ s7 _ H5 y u _ I7p r7 (step y H5 y7)) fun _ s8 ⟨σ8, H8, I8, hw8, q8⟩ => ?_
      refine thnF (pt.run _ s8 σ8 H8 _ I8 q8) fun b s9 ⟨H9, I9, q9⟩ => ?_
      have fin : ∀ {s' : Shared} {H' : Hp}, Inv (X.blk s3 H3 scope ce [it]) ([] ++ pinsAt [it] s7.heap) σ8 H' s' → Nx H' → ∃ m, m < n ∧ ∃ j H', Inv (X.blk s3 H3 scope ce [it]) [] (wipe σ (own.map (·.2))) H' s' ∧ AscI x t it j s'.heap ∧ H' it = none ∧ W j m H' := fun {s' H'} J nx => by
        obtain ⟨m', hm, w'⟩ := hNx H' nx
        obtain ⟨o7, e7, d7⟩ := asc_there a7
        have z := J.pin (it, o7) (List.mem_append_right _ (List.mem_append_right _ (mem_pinsAt (by simp) e7)))
        refine ⟨m', hm, j + 1, H', (J.unpinned (pins := [])).weak (by rw [← hw8, wipe_length]) (fun k v e => ?_), asc_keep a7 fun o e => ?_, z.2.1, w'⟩
        · rw [← hw8] at e
          exact (wipe_some e).1
        · rw [e7] at e; cases e
          exact z.1
      cases b with
      | false =>
        simp only [Bool.false_eq_true, if_false] at q9 ⊢
        exact fin I9 q9
      | true =>
        simp only [if_true] at q9 ⊢
        refine thnF (pe.run _ s9 σ8 H9 _ I9 q9) fun zv s10 ⟨yv, H10, I10, r10, acc, hD10, hz10, nx⟩ => ?_
        exact app_ok (X := X.blk s3 H3 scope ce [it]) I10 hD10 hz10 r10 fun s11 I11 => fin I11 nx
  exact codeAny_compStart_list loop (wpAny_pyIter_striter_ascii a4 loop)
end
end L3
end

section
set_option Elab.async false
set_option linter.all false
set_option maxRecDepth 100000
set_option maxHeartbeats 4000000
/-! L3w: f'{text}', xs[::-1], xs.pop(i), xs.insert(i, y), str(thing), repr of data. -/
namespace L3
open PySem PySem.Spec PyProof.Rows L2

def lFmt (te : TE3) : TE3 := fun τ G Q => te τ G fun d G1 => match d with
  | .str x => x.length ≤ sizeLine ∧ Q (.str x) G1
  | _ => False
/-- xs[::-1]: a list that stands still -/
def lRev (te : TE3) : TE3 := fun τ G Q => te τ G fun d G1 => match lstOf G1 d with
  | some ds => Q (.lst ds.reverse) G1
  | none => False
section
variable {X : Cx} {B : BT} {e o a b : Expr} {te to ta tb : TE3} {pos p p2 apos cpos : Pos}
theorem le_fstr1 (he : LE X B e te) : LE X B (.JoinedStr [.FormattedValue e (-1) none p] pos) (lFmt te) :=
  (pe_joined1 (pe_fmt he)).imp fun σ H Q ⟨Fz, tv, τ, G, Q3, hB, r, ht, k⟩ => emb.mk hB r ht fun v H1 Fz1 d G1 r1 h1 => by
    cases d with
    | str x => exact .inl ⟨x, r1.h1.inv_str, h1.1, k _ _ (.mk r1.tl (.str _) h1.2)⟩
    | _ => exact h1.elim
theorem Reps.reverse {K : PySem.W.Frag} {Fz : Addr → Prop} {H : Hp} : ∀ {ds : List D} {vs : List V}, Reps K Fz H vs ds → Reps K Fz H vs.reverse ds.reverse
  | [], vs, r => by rw [r.inv_nil]; exact .nil
  | d :: ds, vs, r => by
    obtain ⟨v, ws, rfl, r1, r2⟩ := r.inv_cons
    rw [List.reverse_cons, List.reverse_cons]
    exact (Reps.reverse r2).append (.one r1)
theorem le_rev {k : Nat} {p1 p2 p3 : Pos} (he : LE X B e te) : LE X B (.Subscript e (.Slice none none (some (.UnaryOp .USub (.Constant (.int 1) k p1) p2)) p3) pos) (lRev te) :=
  (pe_revL he).imp fun σ H Q ⟨Fz, tv, τ, G, Q3, hB, r, ht, k⟩ => emb.mk hB r ht fun v H1 Fz1 d G1 r1 h1 => by
    have h1' : (match lstOf G1 d with | some ds => Q3 (.lst ds.reverse) G1 | none => False) := h1
    cases e : lstOf G1 d with
    | none => rw [e] at h1'; exact h1'.elim
    | some ds =>
      rw [e] at h1'
      obtain ⟨a, vs, rfl, hs, rs⟩ := lst_at r1.hr r1.h1 e
      exact ⟨a, vs, rfl, SqL.of hs, fun p hp => k _ _ (.mk (r1.tl.new hp) (Rep.mk_lst Rel.stl (rs.reverse.ext (r1.ext1 hp))) h1')⟩
theorem le_popAt (ho : LE X B o to) (ha : LE X B a ta) (hs' : starEach [a] X.env = (false, eval a X.env) :: starEach [] X.env := by rfl) (hbase : attributeBase o "pop" X.env (eval o X.env) = eval o X.env := by rfl)
    (hfew : ((backTo cpos (starEach [a] X.env)).all (fun x => !x.1) && (backToKw cpos (keywordEach [] X.env)).all (fun x => x.1.isSome) && decide ([a].length + ([] : List Keyword).length + (if ([] : List Keyword).isEmpty then 0 else 1) < 30)) = true := by rfl)
    (hline : (apos.endLine == cpos.line) = true := by rfl) : LE X B (.Call (.Attribute o "pop" apos) [a] [] cpos) (lLm rPop3 to (lCons ta lNil)) :=
  le_lm PySem.F.slot_list_pop PySem.F.type_list_pop mt_popAt sim_pop ho (la_cons ha la_nil hs') PySem.F.plainAttrs_list hbase hfew hline hs' rfl
theorem le_insert (ho : LE X B o to) (ha : LE X B a ta) (hb : LE X B b tb) (hs' : starEach [a, b] X.env = (false, eval a X.env) :: starEach [b] X.env := by rfl) (hs2 : starEach [b] X.env = (false, eval b X.env) :: starEach [] X.env := by rfl) (hbase : attributeBase o "insert" X.env (eval o X.env) = eval o X.env := by rfl)
    (hfew : ((backTo cpos (starEach [a, b] X.env)).all (fun x => !x.1) && (backToKw cpos (keywordEach [] X.env)).all (fun x => x.1.isSome) && decide ([a, b].length + ([] : List Keyword).length + (if ([] : List Keyword).isEmpty then 0 else 1) < 30)) = true := by rfl)
    (hline : (apos.endLine == cpos.line) = true := by rfl) (hpl : (backTo cpos (starEach [b] X.env)).any (·.1) = false := by rfl) : LE X B (.Call (.Attribute o "insert" apos) [a, b] [] cpos) (lLm rIns3 to (lCons ta (lCons tb lNil))) :=
  le_lm PySem.F.slot_list_insert PySem.F.type_list_insert mt_insert sim_ins ho (la_cons ha (la_cons hb la_nil hs2) hs') PySem.F.plainAttrs_list hbase hfew hline hs' hpl
end

/-! ### repr of data -/
section
variable {X : Cx}
def rReprD (K : PySem.W.Frag) (A : Around) : List V → Hp → VK → Prop := fun xs H Q => ∃ (v : V) (d : PyData), xs = [v] ∧ Dp K H v d ∧ d.showable = true ∧ d.hasDict = false ∧ d.shown.length ≤ sizeLine ∧ A.units + (d.depth + 1) < cLine ∧ Q (.str d.shown) H
theorem call_reprD (hg : X.A.guards = some []) : CallR X (.builtin "repr") (rReprD X.K X.A) := by
  intro pins s σ H xs us Q I r h
  obtain ⟨v, d, rfl, dp, hs, hd, hz, hu, q⟩ := h
  obtain ⟨u, rfl, ru⟩ := vals1 r
  have fin : ∀ h' t tk, (∀ b o, s.heap.get? b = some o → h'.get? b = some o) → EP X pins σ Q (.str d.shown t) { s with heap := h', toks := tk } := fun h' t tk kk => ⟨.str d.shown, H, I.kept kk, ⟨t, rfl⟩, q⟩
  cases dp with
  | non => cases ru; exact PySem.P.repr_of_none (fin s.heap _ _ fun _ _ e => e)
  | bl b => cases ru; exact PySem.P.repr_of_bool (fin s.heap _ _ fun _ _ e => e)
  | int i => obtain ⟨t, rfl⟩ := ru; exact PySem.P.repr_of_int (of_decide_eq_true hs) (fin s.heap _ _ fun _ _ e => e)
  | str x => obtain ⟨t, rfl⟩ := ru; exact PySem.P.repr_of_str (fin s.heap _ _ fun _ _ e => e) hz
  | lst a1 a2 =>
    have dp := Dp.lst a1 a2
    obtain ⟨as, rd⟩ := Dp.reads I _ _ _ dp ru
    cases ru
    exact repr_of_reads' rd hs (PyData.noDict_hsm hd) hg hu (fun _ _ e => e) (fun h' t tk kk => fin h' t tk kk) hz
  | tup a1 a2 =>
    have dp := Dp.tup a1 a2
    obtain ⟨as, rd⟩ := Dp.reads I _ _ _ dp ru
    cases ru
    exact repr_of_reads' rd hs (PyData.noDict_hsm hd) hg hu (fun _ _ e => e) (fun h' t tk kk => fin h' t tk kk) hz
end
/-- repr(e), e data -/
def lRepr (te : TE3) : TE3 := fun τ G Q => te τ G fun d G1 => (py d).canLay0 = true ∧ (py d).showable = true ∧ (py d).shown.length ≤ sizeLine ∧ (py d).depth ≤ 100 ∧ Q (.str (py d).shown) G1
section
variable {X : Cx} {B : BT} {e : Expr} {te : TE3} {p pos : Pos} {k : Nat}
theorem le_repr (hr : Room k X.A) (hgd : X.A.guards = some []) (hg : Gl X "repr") (hm : X.mg "repr" = none) (hv : bootBuiltins "repr" = some (.builtin "repr")) (he : LE X B e te) (hs : starEach [e] X.env = (false, eval e X.env) :: starEach [] X.env := by rfl)
    (hpl : (backTo pos (starEach [] X.env)).any (·.1) = false := by rfl) : LE X B (.Call (.Name "repr" p) [e] [] pos) (lRepr te) :=
  (pe_callB (call_reprD hgd) hg hm hv (pa_cons he pa_nil hs) (by decide) (by decide) hs hpl).imp fun σ H Q ⟨Fz, tv, τ, G, Q3, hB, r, ht, kk⟩ => emb.mk hB r ht fun v H1 Fz1 d G1 r1 ⟨h1, h2, h3, h4, q⟩ =>
    ⟨v, py d, rfl, r1.h1.dp h1, h2, PyData.hasDict_of_canLay _ h1, h3, by have := hr.un; omega, kk _ _ (.mk r1.tl (.str _) q)⟩
/-- str(e), e an instance of the class at C, whose __str__ keeps sp -/
def lStrO (C : Addr) (sp : Sp3) (te : TE3) : TE3 := fun τ G Q => te τ G fun d G1 => ∃ fs, insOf G1 d = some (C, fs) ∧ sp [d] G1 fun y G2 => match y with
  | .str x => Q (.str x) G2
  | _ => False
theorem room_in2 {A : Around} (hr : Room (k + 1) A) : Room k A.in1.in1 := ⟨hr.hd, hr.dp |> fun h => by show A.depth + 3 * k + 5 < _; omega, hr.un |> fun h => by show A.units + 1 + 1 + 16 * k + 200 < _; omega⟩
def rStrO (K : PySem.W.Frag) (C : Addr) (sp : Sp) : List V → Hp → VK → Prop := fun xs H Q => ∃ a dx fs, xs = [.ref a] ∧ H a = some (.ins C dx fs) ∧ sp [.ref a] H (fun v H' => ∃ x, v = .str x ∧ Q (.str x) H') E0
theorem call_strO {C : Addr} {sp : Sp} {f : Addr} {fd : FuncData} {ps : List Str} (c : Cls X.K C) (hm : Meth X.K C "__str__" f) (F : FnOk X.prog X.w X.K X.mg X.base CX0 k f fd ps sp) (hb : Binds X.K fd ps []) (hr : Room (k + 1) X.A) : CallR X (.type "str") (rStrO X.K C sp) := by
  intro pins s σ H xs us Q I r h
  obtain ⟨a, dx, fs, rfl, ea, q⟩ := h
  obtain ⟨u, rfl, ru⟩ := vals1 r
  cases ru
  obtain ⟨mA, O, _, _, _, _⟩ := ins_get I.hok ea
  obtain ⟨od, J, _⟩ := O.look
  refine PySem.W.kso_call (by have := hr.un; show X.A.units + 1 + 1 < cLine; omega) I.kIn J hm.at_ hm.fn ?_
  have hl : ([Value.ref a] : List Value).length = ps.length := by
    have := F.len _ _ _ _ q
    simpa using this
  have bnd := hb s [.ref a] I.kIn (by rw [List.append_nil]; exact hl)
  rw [List.append_nil] at bnd
  refine wpAny_call (codeAny_mono (F.run X.A.in1.in1 X.stack s H ⟨[.ref a], []⟩ [.ref a] [.ref a] _ E0 (room_in2 hr) I.env0.in1.in1 bnd (.cons rfl .nil) q) fun r2 s2 hr2 => ?_)
  cases r2 with
  | error _ => exact False.elim hr2
  | ok fl => cases fl with
    | ret u2 =>
      obtain ⟨v, H', I2, rv, x, ev, q2⟩ := I.after hr2
      subst ev
      obtain ⟨t, rfl⟩ := rv
      exact ⟨.str x, H', I2, ⟨t, rfl⟩, q2⟩
    | next => exact False.elim hr2
    | brk => exact False.elim hr2
    | cont => exact False.elim hr2
theorem le_strO {C : Addr} {sp : Sp3} (M : CalM X.prog X.w X.K X.mg X.base C "__str__" k sp []) (hr : Room (k + 1) X.A) (hg : Gl X "str") (hm : X.mg "str" = none) (hv : bootBuiltins "str" = some (.type "str")) (he : LE X B e te)
    (hs : starEach [e] X.env = (false, eval e X.env) :: starEach [] X.env := by rfl) (hpl : (backTo pos (starEach [] X.env)).any (·.1) = false := by rfl) : LE X B (.Call (.Name "str" p) [e] [] pos) (lStrO C sp te) := by
  obtain ⟨f, fd, ps, dvs, ds, hme, F, hb, hd, hvv⟩ := M.ex
  have hnil : dvs = [] := (hvv (fun _ => False) (fun _ => none)).inv_nil
  subst hnil
  cases hd
  exact (pe_callTy (call_strO M.cls hme F hb hr) hg hm hv (pa_cons he pa_nil hs) (by decide) (by decide) hs hpl).imp fun σ H Q ⟨Fz, tv, τ, G, Q3, hB, r, ht, kk⟩ => emb.mk hB r ht fun v H1 Fz1 d G1 r1 ⟨fs, e1, h1⟩ => by
    obtain ⟨a, dx, vs, rfl, h2, rk⟩ := ins_at r1.hr r1.h1 e1
    refine ⟨a, dx, vs, rfl, h2, low_of (E := E0) r1.tl (Reps.one r1.h1) h1 fun v H' hp => ?_⟩
    obtain ⟨Fz', y, G', r', q⟩ := hp
    cases y with
    | str x => exact ⟨x, r'.h1.inv_str, kk _ _ (.mk r'.tl (.str x) q)⟩
    | _ => exact q.elim
end
end L3
end

section
set_option Elab.async false
set_option linter.all false
set_option maxRecDepth 100000
set_option maxHeartbeats 4000000
/-! L3la: f(lambda: e), f a def that calls what it got; what is raised in e has no context. -/
namespace L3
open PySem PySem.Spec PyProof.Rows L2 LamX
/-- the context of a lambda's body where what is raised has no context -/
def lamN (X : Cx) (A : Around) (outer : List Env) (s : Shared) (H : Hp) (E : XK) (scope : Scope) (f c' : Addr) : Cx :=
  (lamCx X A outer s H E scope f c').tr [] fun e s' => wpAny (model X.prog X.w) (A.deeper (lamEnv X scope s.heap.objs.size f c')) (leaving (lamEnv X scope s.heap.objs.size f c') e) (fun _ s2 => L2N.CX X.prog X.w outer H s E e s2) (fun e' s2 => L2N.CX X.prog X.w outer H s E e' s2) s'
theorem takes_lamN {X : Cx} {A : Around} {outer : List Env} {s : Shared} {H : Hp} {E : XK} {scope : Scope} {f c' : Addr} : L2N.Takes (lamN X A outer s H E scope f c') (fun cls d _ H' => E cls d H') := L2N.takes_of rfl rfl rfl rfl
section
variable {X : Cx} {pins : List (Addr × Obj)} {σ : L2.St} {H : Hp} {s : Shared}
/-- deed(), in the def that got the lambda -/
theorem pe_deed {CXg : CXT} {Eg : XK} {Ng : List Str} {qg : Str} {sg : Scope} {g f c' : Addr} {cdg pm ctv : Value} {params : Arguments} {body : Expr} {scope : Scope} {k i : Nat} {a : Str} {pn : List (Addr × Obj)} {xe : Value → Shared → Prop} {W : WX} {tb : XK → TE} {p1 p2 : Pos}
    (I : Inv X pins σ H s) (L : LamS X.env.scope scope) (hf : s.heap.get? f = some (PySem.W.kla_obj "<lambda>" (X.env.qual ++ "<lambda>") params body scope (cloFrom X.env.cells scope.names []) pm c' ctv)) (nf : H f = none) (nr : f ∉ frs X.stack)
    (noA : bindArgs (PySem.W.kla_fn "<lambda>" (X.env.qual ++ "<lambda>") params body scope (cloFrom X.env.cells scope.names []) pm (.ref c') ctv) ⟨[], []⟩ = pure [])
    (tk : L2N.Takes ((cxOf CXg X.prog X.w X.K X.mg X.base Ng qg sg g cdg X.A X.stack s H Eg).tr pn xe) W) (room : Room (k + 1) (X.A.deeper (envOfC qg sg s.heap.objs.size g cdg)))
    (hbody : ∀ (A : Around) (outer : List Env) (s : Shared) (H : Hp) (E : XK), Room k (A.deeper (lamEnv X scope s.heap.objs.size f c')) → PE (lamN X A outer s H E scope f c') body (tb E))
    (hN : Ng[i]? = some a) (hv : Vis sg a) (hd : (a == ("__debug__" : Str)) = false := by decide) (hcd : (a == ("__classdict__" : Str)) = false := by decide) :
    PE ((cxOf CXg X.prog X.w X.K X.mg X.base Ng qg sg g cdg X.A X.stack s H Eg).tr pn xe) (.Call (.Name a p1) [] [] p2)
      (fun σZ HZ Q => σZ[i]? = some (some (.ref f)) ∧ HZ c' = some (CodeO c' (X.env.qual ++ "<lambda>")) ∧ tb (WE W σZ) σ HZ Q) := by
  refine ⟨fun pz sz σZ HZ Q IZ ⟨slot, known, ht⟩ => wpAny_Call_Name_kw (thn ((pe_var (pos := p1) (i := i) hN hv hd hcd).run pz sz σZ HZ (fun v H1 => v = .ref f ∧ H1 = HZ) IZ ⟨.ref f, slot, rfl, rfl⟩) ?_)⟩
  rintro u s1 ⟨v, H1, I1, r1, rfl, rfl⟩
  cases (show u = Value.ref f from r1)
  have there := I1.base.keep f _ hf nf nr (fun z => nomatch (show f ∈ ([] : List Addr) from z))
  refine PySem.W.callWith_F0 ⟨_, _, _, _, there⟩ ?_
  obtain ⟨⟨oc, vs, t, hoc, hdc, hvc⟩, _, _⟩ := I1.hok c' _ known
  have run : codeAny (model X.prog X.w) (X.A.deeper (envOfC qg sg s.heap.objs.size g cdg)) (.call (.ref f) ⟨[], []⟩) (CR (L2N.CX X.prog X.w) (envOfC qg sg s.heap.objs.size g cdg :: X.stack) X.prog X.w H1 s1 Q (WE W σZ)) s1 := by
    refine PySem.W.kla_callFunE room.depth there rfl L.co L.gen rfl ⟨c', oc, vs, t, rfl, hoc, hdc, hvc⟩ ?_
    rw [noA]
    refine wpAny_pure (wpAny_newFunctionEnv (fun y hy => (L.own y hy).2) (fun y hy => (nomatch hy)) (fun h₁ hns hsb => ⟨I1.nolimit.fresh _ hsb, ?_⟩) L.kind)
    show codeAny _ _ (.expr body (lamEnv X scope s1.heap.objs.size f c')) _ _
    have J := lam_start2 (tk := s1.toks + ([] : List (Str × Value)).length) (f := f) (c' := c') (E := WE W σZ) I L I1.env0 room.hd I1.base hns (fun b o e => hsb.extBut b o (Nat.ne_of_lt (Heap.lt_size e)) (Heap.get?_push_of_some _ e))
    exact PySem.W.kla_codeExpr (wpAny_mono ((hbody _ _ s1 H1 _ (room.deeper _)).run [] _ _ H1 Q (J.toTry _) ht) (fun v s' ⟨w', H', J', rv, q⟩ => ⟨w', H', J'.os, J'.bare, J'.base, J'.hok, rv, q⟩) fun e s' z => z)
  refine wpAny_call (codeAny_mono run fun r s' z => ?_)
  cases r with
  | error e => exact L2N.passAt tk σZ pz H1 s1 e s' I1 z
  | ok fl => cases fl with
    | ret u => exact I1.after z
    | next => exact False.elim z
    | brk => exact False.elim z
    | cont => exact False.elim z
end
/-- the def x at g calls what it got (its parameter a): TT tells what it makes of it -/
def GivesN (X : Cx) (Ng : List Str) (x : Str) (sg : Scope) (g : Addr) (cdg : Value) (bg : List Stmt) (a : Str) (q : Str) (TT : (XK → Hp → VK → Prop) → Hp → VK → Prop) : Prop :=
  ∀ (f c' : Addr) (s : Shared) (H : Hp) (Q : VK) (tl : XK → Hp → VK → Prop), Room 3 (X.A.deeper (envOfC x sg s.heap.objs.size g cdg)) →
    (∀ (W : WX) (pn : List (Addr × Obj)) (xe : Value → Shared → Prop) (p1 p2 : Pos), L2N.Takes ((cxOf CX0 X.prog X.w X.K X.mg X.base Ng x sg g cdg X.A X.stack s H E0).tr pn xe) W →
      PE ((cxOf CX0 X.prog X.w X.K X.mg X.base Ng x sg g cdg X.A X.stack s H E0).tr pn xe) (.Call (.Name a p1) [] [] p2) (fun σZ HZ Q => σZ[0]? = some (some (.ref f)) ∧ HZ c' = some (CodeO c' q) ∧ tl (WE W σZ) HZ Q)) →
    H c' = some (CodeO c' q) → TT tl H Q → ∃ t, PSs (cxOf CX0 X.prog X.w X.K X.mg X.base Ng x sg g cdg X.A X.stack s H E0).nox bg t ∧ t { nx := fun _ H' => Q .non H', rt := Q } (L2.start Ng [.ref f]) H
section
variable {X : Cx}
theorem pe_lamN {T : List (Addr × Str)} {TT : (XK → Hp → VK → Prop) → Hp → VK → Prop} {x a : Str} {g c P : Addr} {k : Nat} {pg : Arguments} {bg : List Stmt} {sg : Scope} {dV kV doc pm cdv ct oc : Value} {an od : Option Addr} {osl : Array (Option Value)} {Ng : List Str}
    {params : Arguments} {body : Expr} {scope : Scope} {t : XK → TE} {p lpos pos : Pos} (hg : Gl X x) (hm : X.mg x = some (.ref g)) (hk : PySem.W.keepIn X.K (.ref g) = true)
    (lk : X.K.lookup g = some ⟨oc, od, .func (PySem.W.fnOf x x pg bg sg dV kV doc pm an cdv ct), osl⟩) (hcg : PySem.W.codeIn X.K cdv x = true) (hb : L2.Binds X.K (PySem.W.fnOf x x pg bg sg dV kV doc pm an cdv ct) [a] []) (Sg : FnScope Ng [a] sg) (hNg : Ng[0]? = some a) (hva : Vis sg a)
    (hG : GivesN X Ng x sg g cdv bg a (X.env.qual ++ "<lambda>") TT)
    (TB : TabB X.base X.mg c P) (hcode : X.env.code = .ref c) (hmT : (P, X.env.qual ++ "<lambda>") ∈ T) (hu : ∀ p ∈ T, p.1 = P → p.2 = X.env.qual ++ "<lambda>") (room : Room (k + 4) X.A) (L : LamS X.env.scope scope) (noD : defaultsOf params X.env = ([], []))
    (noA : ∀ (q : Str) (cl : List (Str × Addr)) (pm cv ctv : Value), bindArgs (PySem.W.kla_fn "<lambda>" q params body scope cl pm cv ctv) ⟨[], []⟩ = pure [])
    (hbody : ∀ (A : Around) (outer : List Env) (s : Shared) (H : Hp) (E : XK) (f c' : Addr), Room k (A.deeper (lamEnv X scope s.heap.objs.size f c')) → PE (lamN X A outer s H E scope f c') body (t E))
    (hdb : (x == ("__debug__" : Str)) = false := by decide) (hd : (a == ("__debug__" : Str)) = false := by decide) (hcd : (a == ("__classdict__" : Str)) = false := by decide) :
    PE X (.Call (.Name x p) [.Lambda params body scope lpos] [] pos) (tLam T TT t) := by
  refine ⟨fun pins s σ H Q I ⟨tabs, h⟩ => wpAny_Call_Name_kw (ld_glob I hg hm (PySem.W.callWith_K (h₀ := X.base) I.ok.mod.kin hk ?_ (by rfl) (by rfl)) hdb)⟩
  show wpAny _ _ (spliced ((false, eval (.Lambda params body scope lpos) X.env) :: backTo pos (starEach [] X.env))) _ _ s
  refine Calls.spliced_cons (lam_make2 I TB hcode hmT hu tabs noD (L.has I.ok) fun f c' pm' ctv H1 s1 I1 eN tabs1 hf nf nr known => Calls.spliced_nil ⟨I1.kIn, ?_⟩)
  have run : codeAny (model X.prog X.w) X.A (.call (.ref g) ⟨[.ref f], []⟩) (CR CX0 X.stack X.prog X.w H1 s1 Q E0) s1 := by
    refine run_ofS (k := k + 3) (N := Ng) (ps := [a]) (us := [.ref f]) (vs := [.ref f]) lk hcg Sg room I1.env0 (hb s1 [.ref f] I1.kIn rfl) (.cons rfl .nil) rfl fun room' => ?_
    obtain ⟨t', ht', hq'⟩ := hG f c' s1 H1 Q (fun E H' Q' => t E σ H' Q') (room'.mono (by omega)) (fun W pn xe p1 p2 tk => pe_deed (i := 0) (k := k) I1 L hf nf nr (noA _ _ _ _ _) tk (room'.mono (by omega)) (fun A outer s H E r2 => hbody A outer s H E f c' r2) hNg hva hd hcd) known (h H1 eN tabs1)
    exact ⟨t', ht'.nox, hq'⟩
  refine wpAny_call (codeAny_mono run fun r s2 z => ?_)
  cases r with
  | error e => exact False.elim z
  | ok fl => cases fl with
    | ret u => exact I1.after z
    | next => exact False.elim z
    | brk => exact False.elim z
    | cont => exact False.elim z
end
end L3
end

section
set_option Elab.async false
set_option linter.all false
set_option maxRecDepth 100000
set_option maxHeartbeats 4000000
/-! L3xi: an own exception class over any built-in one, with its own __init__: C(e, ..) made. -/
namespace L3
open PySem PySem.Spec PyProof.Rows L2
/-- what is known of such a class -/
structure XiC (K : PySem.W.Frag) (C : Addr) (B newId initId : String) (bmB : List Value) : Prop where
  F : ExcBaseFacts B newId initId bmB
  SF : StoreFacts B bmB "object.__setattr__" "object"
  q : PySem.W.excInitIn K C bmB newId = true
  ov : PySem.W.excOver K C bmB = true
  hdC : PySem.W.hasDictIn K C = true
  sa : PySem.W.findIn K (.ref C) "__setattr__" = some (some (.builtin "object.__setattr__"))
  exC : PySem.W.subIn K (.ref C) (.type "BaseException") = some true
  tyC : PySem.W.typeIn K (.ref C) = some (.type "type")
  kC : PySem.W.keepIn K (.ref C) = true
section
variable {X : Cx} {pins : List (Addr × Obj)} {σ : L2.St} {H : Hp} {s : Shared} {a C : Addr} {f : Str} {y : V} {u : Value} {E : Value → Shared → Prop} {A : Around} {B newId initId : String} {bmB : List Value}
/-- the first field -/
theorem xi_own {name : Str} {tk : Tok} {v : Value} {x : Addr} {fv : Array Value} {cd : ClassData} {b : Bool} {K : PySem.W.Frag} {hp : Heap} {g : Array GenState} {d : Drawn} {t : Nat} {os : OsState} {P : Fin → Shared → Prop} {prog : Program} {w : World}
    (inK : K.In hp) (hx : hp.get? x = some { cls := .ref C, data := .fields fv }) (hcd : PySem.W.clsIn K C = some cd) (hh : cd.hasDict = true)
    (k : ∀ h' tk' dx, (∀ b o, b ≠ x → hp.get? b = some o → h'.get? b = some o) → hp.objs.size ≤ dx → dx ≠ x → h'.get? x = some { cls := .ref C, dict := some dx, data := .fields fv } →
      h'.Ns1 dx (fun y => if y = name then some v else none) → P (.done (.ret .none)) ⟨h', g, d, tk', os⟩) :
    wpAny (model prog w) A (Builtin.ObjectAttr.storeInOwnDict (.ref x) (.ref C) (.str name tk) name v b) P E ⟨hp, g, d, t, os⟩ := by
  have nx : x ≠ hp.objs.size := Nat.ne_of_lt (Heap.lt_size hx)
  have lc : PySem.W.Looks (model prog w) hp (classData C) cd := PySem.W.looks_clsIn inK hcd
  obtain ⟨nm, bs, mro, ns, qn, hd, sn, sb, ab, col, del⟩ := cd
  dsimp only at hh
  subst hh
  unfold Builtin.ObjectAttr.storeInOwnDict Builtin.ObjectAttr.ownDictForStores
  repeat (first | with_reducible refine PySem.HandSPX.store_in_new ?_ ?_ | with_reducible refine wpAny_loadPart_at hx ?_ | with_reducible refine lc.at ?_ | wp_step)
  · exact ⟨_, #[], _, (Heap.get?_update_ne _ _ _ _ nx.symm).trans (Heap.get?_push_at rfl rfl), rfl, fun e he => (by simp at he), fun _ => rfl⟩
  · intro h' tk' ns hs
    refine k h' tk' hp.objs.size (fun c o hc ho => (hs.2 c (Nat.ne_of_lt (Heap.lt_size ho))).trans ((Heap.get?_update_ne _ _ _ _ hc).trans (Heap.get?_push_of_some _ ho))) (Nat.le_refl _) nx.symm ?_ ns
    exact (hs.2 x nx).trans (Heap.get?_update_self _ (Heap.get?_push_of_some _ hx) rfl)
theorem noDict {h h' : Heap} (T : XiC X.K C B newId initId bmB) : ∃ cd, PySem.W.clsIn X.K C = some cd ∧ cd.hasDict = true := PySem.W.any_some T.hdC
/-- self.f = y in __init__ -/
theorem xi_store {Q : Unit → Shared → Prop} (T : XiC X.K C B newId initId bmB) (I : Inv X pins σ H s) (e : H a = some (exo a C none)) (hno : PySem.W.findIn X.K (.ref C) f = some none) (ry : RelV y u)
    (k : ∀ dx s', H dx = none → dx ≠ a → Inv X pins σ (upd (upd H dx (exd dx [(f, y)])) a (exo a C (some dx))) s' → Q () s') : wpAny (model X.prog X.w) A (setAttr (.ref a) f u) Q E s := by
  obtain ⟨cd, hcd, hh⟩ := PySem.W.any_some T.hdC
  obtain ⟨t1, ho⟩ := exo_at I.hok e
  obtain ⟨hp, g, d, t, os⟩ := s
  refine PySem.W.set_plain I.kIn (ox := { cls := .ref C, dict := none, data := .fields #[.ref t1, .none, .none, .none, .bool false, .none] }) (od := none) ⟨ho, rfl, rfl, trivial⟩ T.sa ?_
  refine PySem.W.osa_openX T.SF I.kIn (ox := { cls := .ref C, dict := none, data := .fields #[.ref t1, .none, .none, .none, .bool false, .none] }) (od := none) (r := none) ⟨ho, rfl, rfl, trivial⟩ T.ov (by unfold PySem.W.takerIn; rw [hno]; rfl) fun b => ?_
  refine xi_own I.kIn ho hcd hh fun h' tk' dx kk dn dne hx hn => ?_
  have fresh : H dx = none := I.hok.fresh dn
  have old : ∀ {c : Addr} {o : Obj}, hp.get? c = some o → c ≠ dx := fun z => Nat.ne_of_lt (Nat.lt_of_lt_of_le (Heap.lt_size z) dn)
  have notA : ∀ {c : Addr}, H c = none → c ≠ a := fun n z => by rw [z, e] at n; cases n
  have keepH : ∀ {c : Addr} {o : HO}, H c = some o → c ≠ a → upd (upd H dx (exd dx [(f, y)])) a (exo a C (some dx)) c = some o := fun z n => by
    rw [upd_ne n, upd_ne (ne_of_none z fresh)]; exact z
  refine k dx _ fresh dne (I.un (t' := tk') ?_ fun c o z => ?_)
  · exact { keep := fun c o z n _ _ => kk c o (notA n) z
            slot := fun c o z n _ _ => ⟨o.slots, kk c o (notA n) z⟩
            free := fun c o z n _ => by rw [upd_ne (notA n), upd_ne (old z)]; exact n
            there := fun c o z _ => (Classical.em (c = a)).elim (fun q => ⟨_, (congrArg h'.get? q).trans hx⟩) fun q => ⟨o, kk c o q z⟩
            tups := fun c xs z => keepH z (at_ne e z exo_tup)
            frzs := fun c o v z => keepH z (at_ne e z exo_frz)
            tbls := fun c ps z => ⟨#[], by rw [keepH z (at_ne e z exo_tbl)]; simp⟩ }
  · rcases Classical.em (c = a) with rfl | n1
    · rw [upd_same] at z
      cases z
      exact exo_ok hx
    · rw [upd_ne n1] at z
      rcases Classical.em (c = dx) with rfl | n2
      · rw [upd_same] at z
        cases z
        exact exd_ok hn (relO_put (fs := []) ry fun _ => trivial)
      · rw [upd_ne n2] at z
        exact (I.hok c o z).stay (fun c' v hc q => kk c' v (hc.elim (fun q => by rw [q]; exact n1) fun q => at_ne e q exo_own) q) (fun c' q => keepH q (at_ne e q exo_own)) fun c' xs q => keepH q (at_ne e q exo_tup)
/-- B.__init__(self, ..): nothing of it is told -/
theorem xi_init {us : List Value} {Q : Value → Shared → Prop} (T : XiC X.K C B newId initId bmB) (I : Inv X pins σ H s) (e : H a = some (exo a C none)) (hl : us.length ≤ sizeLine) (k : ∀ s', Inv X pins σ H s' → Q .none s') :
    wpAny (model X.prog X.w) A (call (.builtin initId) (.ref a :: us)) Q E s := by
  obtain ⟨nm, N, qn, bs, bm, hdct, sn, sub, ab, col, dd, k0, k1, k2, k3, k5, hC, hT⟩ := PySem.W.excInit_of I.kIn T.q
  obtain ⟨t1, ho⟩ := exo_at I.hok e
  obtain ⟨hp, g, d, t, os⟩ := s
  refine wpAny_call (PySem.HandSPX.init_base T.F hT hC ho hl fun h' t2 kk hx => ?_)
  have J := I.write (t' := t) (x := a) (e := a) (o := exo a C none) (by rw [e]; exact trivial) (.inl rfl) kk ⟨_, hx⟩ (exo_ok hx)
  have same : upd H a (exo a C none) = H := funext fun c => (Classical.em (c = a)).elim (fun q => by rw [q, upd_same, e]) fun q => upd_ne q
  rw [same] at J
  exact k _ J
end
section
variable {X : Cx} {o e : Expr} {es : List Expr} {to te : TE} {ta : TA} {f : Str} {p p' p1 p2 pos : Pos} {B newId initId : String} {bmB : List Value} {C : Addr}
/-- B.__init__(e, ..), B a built-in exception class -/
def tXi (K : PySem.W.Frag) (C : Addr) (ta : TA) : TE := fun σ H Q => ta σ H fun vs H1 => ∃ (a : Addr) (ws : List V), vs = .ref a :: ws ∧ ws.length ≤ 1000 ∧ H1 a = some (exo a C none) ∧ Q .non H1
theorem pe_xinit {x : Str} {pl : Sem Bool} (T : XiC X.K C B newId initId bmB) (hg : Gl X x) (hm : X.mg x = none) (hv : bootBuiltins x = some (.type B)) (ht : typeOf (.type B) = pure (.type "type")) (hst : Manifest.isStub B = false)
    (hL : PySem.W.findCls X.K (.type B) (.type "type") "__init__" = some (.val (.builtin initId))) (hh : PySem.W.handedIn (.builtin initId) = true) (ha : PA X (e :: es) ta) (hnn : x ≠ "__name__") (hdb : (x == ("__debug__" : Str)) = false)
    (hc : eval (.Call (.Attribute (.Name x p1) "__init__" p2) (e :: es) [] pos) X.env = (do
      let ov ← eval (.Name x p1) X.env
      standAt p2.atName
      let (f, first) ← holding [ov] (getMethod ov "__init__" pl)
      callWith pos f first (backTo pos (starEach (e :: es) X.env)) (backToKw pos (keywordEach [] X.env))) := by rfl)
    (he : starEach (e :: es) X.env = (false, eval e X.env) :: starEach es X.env := by rfl) (hpl : (backTo pos (starEach es X.env)).any (·.1) = false := by rfl) :
    PE X (.Call (.Attribute (.Name x p1) "__init__" p2) (e :: es) [] pos) (tXi X.K C ta) := by
  refine ⟨fun pins s σ H Q I h => PySem.W.methodCall_KW (ld_blt I hg hm hv ?_ hnn hdb) hc⟩
  obtain ⟨m, fr⟩ := I.fr
  refine PySem.W.method_type fr I.ok.mod.kin ht hst hL hh ?_
  show wpAny _ _ (callWith pos (Value.builtin initId) [] (backTo pos (starEach (e :: es) X.env)) []) _ _ _
  refine PyProof.Rows.callWith_method1 (thn (ha.run pos pins _ σ H _ (I.tok _) h) fun us s1 ⟨vs, H1, I1, r1, a, ws, ev, hl, ea, q⟩ => ?_) he hpl
  subst ev
  cases r1 with
  | @cons _ u0 _ ur ra rw' =>
    cases (show u0 = Value.ref a from ra)
    exact xi_init T I1 ea (by rw [← Paired.length rw', sizeLine_eq]; omega) fun s' J => ⟨.non, H1, J, rfl, q⟩
/-- self.f = e -/
def tXst (K : PySem.W.Frag) (C : Addr) (f : Str) (to te : TE) : TS := fun D σ H => te σ H fun y H1 => to σ H1 fun x H2 => ∃ a : Addr, x = .ref a ∧ H2 a = some (exo a C none) ∧ ∀ dx, H2 dx = none → dx ≠ a → D.nx σ (upd (upd H2 dx (exd dx [(f, y)])) a (exo a C (some dx)))
theorem ps_xst (T : XiC X.K C B newId initId bmB) (hno : PySem.W.findIn X.K (.ref C) f = some none) (ho : PE X o to) (he : PE X e te) (hs : swapsWith e (some (.Attribute o f p')) pos.line X.env = pure false := by rfl) :
    PS X (.Assign [.Attribute o f p'] e pos) (tXst X.K C f to te) := by
  refine ⟨fun pins s σ H D I h => plainObj_wpAny_Assign_Attribute (thn (he.run pins s σ H _ I h) fun v s1 ⟨y, H1, I1, r1, q1⟩ => thn (ho.run pins s1 σ H1 _ I1 q1) fun u s2 ⟨x, H2, I2, r2, a, ex, ea, q⟩ => ?_) hs⟩
  subst ex
  cases (show u = Value.ref a from r2)
  exact xi_store T I2 ea hno r1 fun dx s' n ne J => ⟨σ, _, J, q dx n ne⟩
/-- the promise of such an __init__(self, f) -/
def spXi (C : Addr) (f : Str) : Sp := fun vs H Q _ => ∃ (a : Addr) (y : V), vs = [.ref a, y] ∧ H a = some (exo a C none) ∧ ∀ dx, H dx = none → dx ≠ a → Q .non (upd (upd H dx (exd dx [(f, y)])) a (exo a C (some dx)))
/-- C(e), its own __init__ keeping spXi -/
theorem pmk_xi {x : Str} {fI : Addr} {k : Nat} {fd : FuncData} {ps : List Str} (T : XiC X.K C B newId initId bmB) (iC : PySem.W.findIn X.K (.ref C) "__init__" = some (some (.ref fI))) (tI : PySem.W.typeIn X.K (.ref fI) = some (.type "function"))
    (F1 : FnOk X.prog X.w X.K X.mg X.base CX0 k fI fd ps (spXi C f)) (room : Room (k + 1) X.A) (hb : Binds X.K fd ps []) (hg : Gl X x) (hm : X.mg x = some (.ref C)) (he : PE X e te)
    (hdb : (x == ("__debug__" : Str)) = false := by decide) (hst : starEach [e] X.env = (false, eval e X.env) :: starEach [] X.env := by rfl) (hpl : (backTo pos (starEach [] X.env)).any (·.1) = false := by rfl) :
    L2N.PMk X (.Call (.Name x p) [e] [] pos) (fun σ H Q => te σ H fun y H1 => ∀ d, H1 d = none → Q (.ref C) (some d) (upd H1 d (.xd [(f, y)]))) := by
  intro pins s σ H Q I h
  refine wpAny_Call_Name_kw (ld_glob I hg hm (PySem.W.callWith_K (h₀ := X.base) I.ok.mod.kin T.kC (thn ((pa_cons he pa_nil hst).run pos pins s σ H (fun vs H1 => match vs with | [y] => ∀ d, H1 d = none → Q (.ref C) (some d) (upd H1 d (.xd [(f, y)])) | _ => False) I h) fun us s1 ⟨vs, H1, I1, r1, q1⟩ => ⟨I1.kIn, ?_⟩) hst hpl) hdb)
  obtain ⟨y, rfl, q1⟩ : ∃ y, vs = [y] ∧ ∀ d, H1 d = none → Q (.ref C) (some d) (upd H1 d (.xd [(f, y)])) := by
    match vs, q1 with
    | [y], q1 => exact ⟨y, rfl, q1⟩
  show wpAny _ _ (call (.ref C) us) _ _ _
  obtain ⟨nm, N, qn, bs, bm, hdct, sn, sub, ab, col, dd, k0, k1, k2, k3, k5, hC, hT⟩ := PySem.W.excInit_of I1.kIn T.q
  obtain ⟨hp, g, dr, tk, os⟩ := s1
  generalize ha : hp.objs.size + 1 = a
  have le : hp.objs.size ≤ a := by omega
  have fresh : H1 a = none := I1.hok.fresh le
  generalize hh2 : (hp.push (PySem.W.kdv_tup us)).push (PySem.HandSPX.excO C hp.objs.size) = h2
  have keep : ∀ b o, hp.get? b = some o → h2.get? b = some o := fun b o z => by rw [← hh2]; exact Heap.get?_push_of_some _ (Heap.get?_push_of_some _ z)
  have there : h2.get? a = some (PySem.HandSPX.excO C hp.objs.size) := by rw [← hh2, ← ha]; heap_get
  have I2 : Inv X pins σ (upd H1 a (exo a C none)) ⟨h2, g, dr, tk, os⟩ := I1.laid (t' := tk) (a := a) (o := exo a C none) (h' := h2) keep le (exo_ok there)
  have rv : Vals [V.ref a, y] (Value.ref a :: us) := .cons rfl r1
  have hsp : spXi C f [V.ref a, y] (upd H1 a (exo a C none)) (fun v H2 => v = .non ∧ ∃ d, H2 = upd (upd (upd H1 a (exo a C none)) d (exd d [(f, y)])) a (exo a C (some d)) ∧ H1 d = none ∧ d ≠ a) E0 :=
    ⟨a, y, rfl, upd_same, fun dx n ne => ⟨rfl, dx, rfl, by rw [upd_ne ne] at n; exact n, ne⟩⟩
  have len : (Value.ref a :: us).length = ps.length := by
    have := rv.length
    rw [F1.len _ _ _ _ hsp] at this
    exact this.symm
  have small : us.length ≤ sizeLine := by
    rw [← Paired.length r1, sizeLine_eq]
    show 1 ≤ _
    decide
  have bnd := hb _ (Value.ref a :: us) I2.kIn (by rw [List.append_nil]; exact len)
  rw [List.append_nil] at bnd
  have run := F1.run _ X.stack _ _ ⟨Value.ref a :: us, []⟩ (Value.ref a :: us) _ _ E0 (room.make C us []) (I2.env0.make C us []) bnd rv hsp
  rw [← ha, ← hh2] at run
  refine wpAny_call (PySem.HandSPX.call_own T.F hT hC (PySem.W.looks_findIn I1.kIn iC) (fun self => PySem.W.bind_fn I1.kIn self tI) small (codeAny_mono run fun r s' hr => ?_))
  rw [ha, hh2] at hr
  cases r with
  | error er => exact False.elim hr
  | ok fl => cases fl with
    | ret u =>
      obtain ⟨v, H2, os2, bare2, un2, hok2, rv2, ev, d, eH, nd, ne⟩ := hr
      subst ev
      subst eH
      obtain ⟨h3, g3, d3, t3, os3⟩ := s'
      have ea : upd (upd (upd H1 a (exo a C none)) d (exd d [(f, y)])) a (exo a C (some d)) a = some (exo a C (some d)) := upd_same
      have ed : upd (upd (upd H1 a (exo a C none)) d (exd d [(f, y)])) a (exo a C (some d)) d = some (exd d [(f, y)]) := by rw [upd_ne ne, upd_same]
      obtain ⟨t0, G, J, kG, ge, hoe, na⟩ := mk_end0 (d2 := d3) (t2 := t3) I1 le keep un2 hok2 os2 bare2 ea ed nd
      have same : upd (del (upd (upd (upd H1 a (exo a C none)) d (exd d [(f, y)])) a (exo a C (some d))) a) d (.xd [(f, y)]) = upd H1 d (.xd [(f, y)]) := by
        funext c
        rcases Classical.em (c = d) with rfl | n1
        · rw [upd_same, upd_same]
        · rw [upd_ne n1, upd_ne n1]
          rcases Classical.em (c = a) with rfl | n2
          · rw [del_same, fresh]
          · rw [del_ne n2, upd_ne n2, upd_ne n1, upd_ne n2]
      rw [same] at J na
      refine ⟨rv2, a, _, _, ⟨G, g3, d3, t3, os3⟩, _, .ref C, some d, congrArg Value.ref ha, J, kG, ge, hoe, ⟨rfl, rfl, fun vs hv => ?_⟩, rfl, rfl, na, rfl, bare2, raises_own T.exC T.tyC, q1 d nd⟩
      cases hv
      rfl
    | next => exact False.elim hr
    | brk => exact False.elim hr
    | cont => exact False.elim hr
end
end L3
end

section
set_option Elab.async false
set_option linter.all false
set_option maxRecDepth 100000
set_option maxHeartbeats 4000000
/-! L3tt: try .. except X as n / except (X, Y) as n, several clauses; nothing leaves. -/
namespace L3
open PySem PySem.Spec PyProof.Rows L2
abbrev ClT := List Value × Nat × (Addr → Value → Option Addr → TS)
inductive ClsOk (X : Cx) : List ExceptHandler → List ClT → Prop
  | nil : ClsOk X [] []
  | one {x n : Str} {c : Value} {i : Nat} {ts : Addr → Value → Option Addr → TS} {b₀ : Stmt} {suite : List Stmt} {np pos' : Pos} {hds : List ExceptHandler} {l : List ClT} (hc : Names X x c) (hi : X.N[i]? = some n) (hln : X.env.kindOf n = some .local)
      (hsu : ∀ (a : Addr) (oe : Obj) (cls : Value) (d : Option Addr) (pn : List (Addr × Obj)), L2N.Zn cls d oe → (∃ vs, oe.data = .fields vs) → PSs (X.suite a ((a, oe) :: pn)) (b₀ :: suite) (ts a cls d)) (r : ClsOk X hds l) :
      ClsOk X (.ExceptHandler (some (.Name x np)) (some n) (b₀ :: suite) pos' :: hds) (([c], i, ts) :: l)
  | two {x y n : Str} {c e : Value} {i kk : Nat} {ts : Addr → Value → Option Addr → TS} {b₀ : Stmt} {suite : List Stmt} {p1 p2 pt pos' : Pos} {hds : List ExceptHandler} {l : List ClT} (hc : Names X x c) (he : Names X y e) (hi : X.N[i]? = some n) (hln : X.env.kindOf n = some .local)
      (hst : backTo pt (starEach [.Name x p1, .Name y p2] X.env) = [(false, eval (.Name x p1) X.env), (false, eval (.Name y p2) X.env)])
      (hsu : ∀ (a : Addr) (oe : Obj) (cls : Value) (d : Option Addr) (pn : List (Addr × Obj)), L2N.Zn cls d oe → (∃ vs, oe.data = .fields vs) → PSs (X.suite a ((a, oe) :: pn)) (b₀ :: suite) (ts a cls d)) (r : ClsOk X hds l) :
      ClsOk X (.ExceptHandler (some (.Tuple [.Name x p1, .Name y p2] kk pt)) (some n) (b₀ :: suite) pos' :: hds) (([c, e], i, ts) :: l)
def unset (D : Ends) (i : Nat) : Ends := { nx := fun σ' H' => D.nx (σ'.set i none) H', rt := D.rt, bk := fun σ' H' => D.bk (σ'.set i none) H', ct := fun σ' H' => D.ct (σ'.set i none) H' }
/-- what is wished of what is raised in the body: the first clause that takes it -/
def wCl (K : PySem.W.Frag) (D : Ends) : List ClT → WX
  | [] => fun _ _ _ _ => False
  | (cs, i, ts) :: r => fun cls d σ H => ∃ b, PySem.W.exmAny K cls cs = some b ∧ (b = true → ∀ a, H a = none → ts a cls d (unset D i) (σ.set i (some (.ref a))) H) ∧ (b = false → wCl K D r cls d σ H)
section
variable {X : Cx} {pins : List (Addr × Obj)} {σ : L2.St} {H : Hp} {sI s3 : Shared} {a : Addr} {B : Heap} {cls : Value} {d : Option Addr}
/-- what was in the air has landed -/
structure Ld (X : Cx) (B : Heap) (sI : Shared) (a : Addr) (cls : Value) (d : Option Addr) (s3 : Shared) : Prop where
  fl : HandSPX.FlyingZ B (X.env :: X.outer) a (L2N.Zn cls d) s3.heap
  up : sI.heap.UpToSlots s3.heap
  os : s3.os = sI.os
  ag : AllBare s3.gens
theorem Ld.more {h' : Heap} (L : Ld X B sI a cls d s3) (k : ∀ b o, s3.heap.get? b = some o → h'.get? b = some o) : Ld X B sI a cls d { s3 with heap := h' } := by
  obtain ⟨⟨f1, f2, f3, oe, vs, T, oT, ts, g1, g2, g3, g4, g5, g6, g7, g8, g9⟩, up, os, ag⟩ := L
  exact ⟨⟨fun b o z => k b o (f1 b o z), f2, f3.of_keeps fun b o z _ => ⟨o, k b o z, rfl⟩, oe, vs, T, oT, ts, k _ _ g1, g2, g3, g4, g5, g6, k _ _ g7, g8, g9⟩, up.trans (.of_keeps k), os, ag⟩
theorem Ld.invs (L : Ld X B sI a cls d s3) (J : Inv X pins σ H sI) (nb : ∀ b o, sI.heap.get? b = some o → b ∉ frs X.stack → B.get? b = some o) (na : H a = none) (hf : X.env.frame = some X.env.locals) :
    ∃ oe vs, s3.heap.get? a = some oe ∧ L2N.Zn cls d oe ∧ oe.data = .fields vs ∧ Inv X pins σ H s3 ∧ Inv (X.suite a ((a, oe) :: (X.pn ++ pins))) [] σ H s3 := by
  obtain ⟨oe, vs, ho, hz, hd⟩ := L.fl.there
  have J3 : Inv X pins σ H s3 := J.landed nb L.fl.1 L.up L.os L.ag
  have nfr : a ∉ frs (X.env :: X.outer) := fun hm => by
    obtain ⟨_, o', e', nf⟩ := L.fl.2.2.1.mem hm
    rw [ho] at e'
    cases e'
    exact nf _ hd
  have nL : a ≠ X.env.locals := fun z => nfr (List.mem_filterMap.mpr ⟨X.env, List.mem_cons_self, by rw [hf, z]⟩)
  have nF : a ∉ X.fs := fun hm => by
    obtain ⟨e, he, q⟩ := List.mem_filterMap.mp hm
    exact nfr (List.mem_filterMap.mpr ⟨e, List.mem_cons_of_mem _ he, q⟩)
  exact ⟨oe, vs, ho, hz, hd, J3, J3.suite ho hd na nL nF⟩
/-- a name, read in the suite's place -/
theorem ld_nm {x : Str} {c : Value} {np : Pos} {oe : Obj} {pn : List (Addr × Obj)} {Q : Value → Shared → Prop} {E : Value → Shared → Prop} (hc : Names X x c) (S : Inv (X.suite a ((a, oe) :: pn)) [] σ H s3) (q : Q c s3) :
    wpAny (model X.prog X.w) (X.A.mark (some (.ref a))) (eval (.Name x np) X.env) Q E s3 := by
  obtain ⟨hg, hd, hm | ⟨hm, hv, hn⟩⟩ := hc
  · exact ld_glob (X := X.suite a ((a, oe) :: pn)) S hg hm q hd
  · exact ld_blt (X := X.suite a ((a, oe) :: pn)) S hg hm hv q hn hd
/-- the suite of a clause that takes it -/
theorem run_suite {n : Str} {i : Nat} {ts : Addr → Value → Option Addr → TS} {b₀ : Stmt} {suite : List Stmt} {pos' : Pos} {D : Ends} (hN : X.N.Nodup) (hi : X.N[i]? = some n) (hln : X.env.kindOf n = some .local)
    (hsu : ∀ (a : Addr) (oe : Obj) (cls : Value) (d : Option Addr) (pn : List (Addr × Obj)), L2N.Zn cls d oe → (∃ vs, oe.data = .fields vs) → PSs (X.suite a ((a, oe) :: pn)) (b₀ :: suite) (ts a cls d))
    (L : Ld X B sI a cls d s3) (J : Inv X pins σ H sI) (nb : ∀ b o, sI.heap.get? b = some o → b ∉ frs X.stack → B.get? b = some o) (na : H a = none) (hf : X.env.frame = some X.env.locals)
    (h : ts a cls d (unset D i) (σ.set i (some (.ref a))) H) :
    codeAny (model X.prog X.w) (X.A.mark (some (.ref a))) (.handlers (.ref a) [.ExceptHandler none (some n) (b₀ :: suite) pos'] X.env) (fun r s₂ => match r with
      | .ok f => wpAny (model X.prog X.w) X.A (do bindName X.env n .none; unbindBehindTheSuite X.env n pos') (fun _ s₃ => SP X pins D f s₃) X.xe s₂
      | .error x => cameBackBy (model X.prog X.w) X.A X.env X.xe x s₂) s3 := by
  have ok := J.ok
  refine codeAny_handlers_suite_as (HandSPX.lands_againZ L.fl fun h4 fl4 up4 => ?_)
  have L4 : Ld X B sI a cls d { s3 with heap := h4 } := ⟨fl4, L.up.trans up4, L.os, L.ag⟩
  obtain ⟨oe, vs, ho, hz, hd, J4, S4⟩ := L4.invs J nb na hf
  refine store_ok (X := X.suite a ((a, oe) :: (X.pn ++ pins))) (v := .ref a) S4 hN hi (.inl hln) rfl (fun s5 S5 => ?_) (.inr hln)
  refine wpAny_mono ((hsu a oe cls d (X.pn ++ pins) hz ⟨_, hd⟩).run [] s5 _ H _ S5 h) (fun f s6 z => ?_) (fun _ _ z => False.elim z)
  have gone : ∀ {σ6 : L2.St} {H6 : Hp} {Q : Shared → Prop}, Inv (X.suite a ((a, oe) :: (X.pn ++ pins))) [] σ6 H6 s6 → (∀ s7, Inv X pins (σ6.set i none) H6 s7 → Q s7) →
      wpAny (model X.prog X.w) X.A (do bindName X.env n .none; unbindBehindTheSuite X.env n pos') (fun _ s7 => Q s7) X.xe s6 := fun S6 k => gone_ok (S6.unsuite ok) hN hi hln k
  cases f with
  | next => obtain ⟨_, _, S6, q⟩ := z; exact gone S6 fun s7 J7 => ⟨_, _, J7, q⟩
  | brk => obtain ⟨_, _, S6, q⟩ := z; exact gone S6 fun s7 J7 => ⟨_, _, J7, q⟩
  | cont => obtain ⟨_, _, S6, q⟩ := z; exact gone S6 fun s7 J7 => ⟨_, _, J7, q⟩
  | ret u => obtain ⟨_, _, _, S6, r, q⟩ := z; exact gone S6 fun s7 J7 => ⟨_, _, _, J7, r, q⟩
theorem any_one {K : PySem.W.Frag} {c cls : Value} {b : Bool} (h : PySem.W.exmAny K cls [c] = some b) : PySem.W.exmOne K cls c = some b := by
  obtain ⟨b1, d1, e1, e2, rfl⟩ := PySem.W.exmAny_cons h
  cases (show some false = some d1 from e2)
  rw [Bool.or_false]; exact e1
/-- the clauses in turn -/
theorem run_clauses {hds : List ExceptHandler} {l : List ClT} {D : Ends} (hk : ClsOk X hds l) (hN : X.N.Nodup) (hf : X.env.frame = some X.env.locals) (J : Inv X pins σ H sI)
    (nb : ∀ b o, sI.heap.get? b = some o → b ∉ frs X.stack → B.get? b = some o) (na : H a = none) : ∀ s3, Ld X B sI a cls d s3 → wCl X.K D l cls d σ H → wpAny (model X.prog X.w) X.A (handleBy (.ref a) X.env hds) (SP X pins D) X.xe s3 := by
  induction hk with
  | nil => intro s3 L w; exact w.elim
  | one hc hi hln hsu r ih =>
    rintro s3 L ⟨b, hb, yes, no⟩
    obtain ⟨oe, vs, ho, hz, hd, J3, S3⟩ := L.invs J nb na hf
    have LT : PySem.W.Looks (model X.prog X.w) s3.heap (typeOf (.ref a)) cls := fun A Q E s k q => wpAny_typeOf_ref (k _ _ ho) (by rw [hz.1]; exact q)
    refine wpAny_handleBy_cons (codeAny_handlers_test (ld_nm hc S3 ((PySem.W.exm_one J3.kIn LT (any_one hb)).here ?_))) (by intro q; cases q)
    cases b with
    | true => exact run_suite hN hi hln hsu L J nb na hf (yes rfl a na)
    | false => exact ih s3 L (no rfl)
  | @two x y n c e i kk ts b₀ suite p1 p2 pt pos' hds l hc he hi hln hst hsu r ih =>
    rintro s3 L ⟨b, hb, yes, no⟩
    obtain ⟨oe, vs, ho, hz, hd, J3, S3⟩ := L.invs J nb na hf
    refine wpAny_handleBy_cons (codeAny_handlers_test (wpAny_Tuple_spliced ?_)) (by intro q; cases q)
    rw [hst]
    refine Calls.spliced_cons (ld_nm hc S3 (Calls.spliced_cons (ld_nm he S3 (Calls.spliced_nil ⟨by rw [sizeLine_eq]; show 2 ≤ _; decide, ?_⟩))))
    have L4 := L.more (h' := s3.heap.push ({ cls := .type "tuple", data := .seq [c, e].toArray } : Obj)) (fun b o z => Heap.get?_push_of_some _ z)
    obtain ⟨oe4, vs4, ho4, hz4, hd4, J4, S4⟩ := L4.invs J nb na hf
    have LT : PySem.W.Looks (model X.prog X.w) _ (typeOf (.ref a)) cls := fun A Q E s k q => wpAny_typeOf_ref (k _ _ ho4) (by rw [hz4.1]; exact q)
    refine (PySem.W.exm_tup2 J4.kIn LT (Heap.get?_push_size _ rfl) hb).here ?_
    cases b with
    | true => exact run_suite hN hi hln hsu L4 J nb na hf (yes rfl a na)
    | false => exact ih _ L4 (no rfl)
/-- try: body, the clauses hds -/
theorem ps_try_cl {body : List Stmt} {h₀ : ExceptHandler} {hds : List ExceptHandler} {l : List ClT} {pos : Pos} {tb : WX → TS} (hs : X.stack = X.env :: X.outer) (hf : X.env.frame = some X.env.locals) (hN : X.N.Nodup)
    (hb : ∀ (W : WX) (pn : List (Addr × Obj)) (xe : Value → Shared → Prop), L2N.Takes (X.tr pn xe) W → PassesOwn (model X.prog X.w) X.A X.env xe → PSs (X.tr pn xe) body (tb W)) (hk : ClsOk X (h₀ :: hds) l) :
    PS X (.Try body (h₀ :: hds) [] [] pos) (fun D σ H => tb (wCl X.K D l) D σ H) := by
  refine ⟨fun pins s σ H D I h => ?_⟩
  have ok := I.ok
  have hfr : X.A.frames = some (X.env :: X.outer) := by rw [ok.frames, hs]
  refine wpAny_Try_except (wpAny_mono ((hb (wCl X.K D l) (X.pn ++ pins) (fun e s₁ => wpAny (model X.prog X.w) X.A (noteFrame e X.env) (fun _ s₂ => wpAny (model X.prog X.w) X.A (setFlight e none) (fun _ s₃ =>
    wpAny (model X.prog X.w) X.A (handleBy e X.env (h₀ :: hds)) (SP X pins D) X.xe s₃) X.xe s₂) X.xe s₁) (fun u s' xx => ?_) PassesOwn.looking).run [] s σ H D (I.toTry _) h) (fun f s1 z => ?_) (fun _ _ z => z))
  · obtain ⟨a, B, sI, pins', σ', H', cls, d, rfl, J', nb, up, sky, na, os, ag, w⟩ := xx
    rw [show (X.tr (X.pn ++ pins) _).stack = X.env :: X.outer from hs] at sky
    show wpAny (model X.prog X.w) X.A (noteFrame (.ref a) X.env) _ _ _
    exact L2N.Sky.land L2N.Zn.steady hfr hf sky fun h3 fl up3 => run_clauses hk hN hf (J'.ofTry ok) nb na _ ⟨fl, up.trans up3, os, ag⟩ w
  · cases f with
    | next => obtain ⟨σ', H', J', q⟩ := z; exact wpAny_execs_nil ⟨σ', H', J'.ofTry ok, q⟩
    | brk => obtain ⟨σ', H', J', q⟩ := z; exact ⟨σ', H', J'.ofTry ok, q⟩
    | cont => obtain ⟨σ', H', J', q⟩ := z; exact ⟨σ', H', J'.ofTry ok, q⟩
    | ret u => obtain ⟨v, σ', H', J', r, q⟩ := z; exact ⟨v, σ', H', J'.ofTry ok, r, q⟩
end
end L3
end

section
set_option Elab.async false
set_option linter.all false
set_option maxRecDepth 100000
set_option maxHeartbeats 4000000
/-! L3v: defs that are called where an exception is handled, and are told of it; isinstance of it; count, index; a written dict. -/
namespace L3
open PySem PySem.Spec PyProof.Rows L2

/-! ### defs told of the handled exception: a its place, C its class -/
abbrev SpP := Addr → Addr → Option Addr → Sp3
/-- what is known of the handled exception -/
structure IsHot (A : Around) (p : Addr × Obj) (C : Addr) (dx : Option Addr) : Prop where
  hot : L2H.Hot1 A p
  zn : L2N.Zn (.ref C) dx p.2
  fl : ∃ vs, p.2.data = .fields vs
structure FnP (P : Program) (w : World) (K : PySem.W.Frag) (mg : Str → Option Value) (base : Heap) (k : Nat) (f : Addr) (fd : FuncData) (ps : List Str) (sp : SpP) : Prop where
  len : ∀ a C dx ds G Q, sp a C dx ds G Q → ds.length = ps.length
  run : ∀ (A : Around) (outer : List Env) (s : Shared) (H : Hp) (args : Args) (us : List Value) (vs : List V) (Q : VK) (p : Addr × Obj) (C : Addr) (dx : Option Addr), L2H.RoomH k A → IsHot A p C dx → L2H.PinOk outer H s p → Env0 P w K mg base A outer s H →
    BindsTo s fd args (ps.zip us) → Vals vs us → low K (sp p.1 C dx) vs H Q E0 → codeAny (model P w) A (.call (.ref f) args) (CR CX0 outer P w H s Q E0) s
theorem fnP_ok {P : Program} {w : World} {K : PySem.W.Frag} {mg : Str → Option Value} {base : Heap} {x qual : Str} {params : Arguments} {body : List Stmt} {scope : Scope} {dvs : List V} {kws : List (Str × V)} {f : Addr} {fd : FuncData} {N ps : List Str} {k : Nat} {sp : SpP}
    (F : FunD K x qual params body scope dvs kws f fd) (S : FnScope N ps scope) (len : ∀ a C dx ds G Q, sp a C dx ds G Q → ds.length = ps.length)
    (hbody : ∀ (cdv : Value) (A : Around) (outer : List Env) (s : Shared) (H : Hp) (p : Addr × Obj) (C : Addr) (dx : Option Addr), IsHot A p C dx → L2H.RoomH k (A.deeper (envOfC qual scope s.heap.objs.size f cdv)) →
      ∃ t, LB (L2H.cxH CX0 P w K mg base N qual scope f cdv A outer s H E0 p) [] body t ∧ ∀ ds G Q, sp p.1 C dx ds G Q → t { nx := fun _ G' => Q .non G', rt := Q } (start3 N ds) G) : FnP P w K mg base (k + 1) f fd ps sp := by
  obtain ⟨oc, od, dV, kV, doc, pm, an, cdv, ct, osl, rfl, lk, hcd, _, _⟩ := F.ex
  refine ⟨len, fun A outer s H args us vs Q p C dx room hot pok e0 bnd rv hsp => ?_⟩
  have hlen : vs.length = ps.length := by
    obtain ⟨Fz, tv, ds, G, Q3, _, _, rs, h, _⟩ := hsp
    rw [rs.len]
    exact len _ _ _ ds G Q3 h
  have inK : K.In s.heap := e0.mod.kin.keeps fun b o e => (e0.bs b o e).1
  have nolim : s.heap.NoLimit := e0.mod.nolimit.keeps fun b o e => (e0.bs b o e).1
  have kinds : ∀ y ∈ ps.zip us, scope.names.lookup y.1 = some .local ∨ (scope.names.lookup y.1 = some .cell ∧ ((cellsFrom (s.heap.objs.size + 1) scope.names []).lookup y.1).isSome = true) := fun ⟨n, v⟩ hy =>
    (S.par n (List.of_mem_zip hy).1).elim .inl fun q => .inr ⟨q, PySem.W.cellsFrom_some _ _ _ (.inl q)⟩
  refine codeAny_call_function room.depth (inK _ _ lk) rfl S.co S.gen rfl (PySem.W.codeRec_of inK hcd) (bnd _ _ _ _ ?_)
  refine wpAny_newFunctionEnv_cells S.kind kinds fun env he s1 x => ?_
  subst he
  refine ⟨nolim.keeps x.toInCall.keep, codeAny_func ?_⟩
  obtain ⟨t, ht, hq⟩ := hbody cdv A outer s H p C dx hot (room.deeper _)
  obtain ⟨Fz, tv, ds, G, Q3, h1, h2, rs, h, kk⟩ := hsp
  have J := L2H.inv_startH (CX := CX0) (f := f) (qual := qual) (cd := cdv) (E := E0) S pok e0 hlen rv x
  refine wpAny_mono (ht.run [] s1 (L2.start N vs) H { nx := fun _ H' => Q .non H', rt := Q } J ⟨Fz, tv, start3 N ds, G, { nx := fun _ G' => Q3 .non G', rt := Q3 }, fun q hq => absurd hq (by simp), start_rel N h1 h2 rs, hq ds G Q3 h, ?_⟩) (fun fl s' hs => ?_) fun _ _ z => z
  · exact ⟨fun σ' τ' G' Fz' H' r q => kk .non H' Fz' .non G' r.hr (fun q' hq' => r.tmp q' hq') .non q, fun d G' v H' Fz' σ' τ' r q => kk v H' Fz' d G' r.hr (fun q' hq' => r.tmp q' (List.mem_cons_of_mem _ hq')) r.h1 q,
      fun _ _ _ _ _ _ q => q.elim, fun _ _ _ _ _ _ q => q.elim⟩
  · have fin : ∀ {σ' : L2.St} {H' : Hp} {v : V} {u : Value}, Inv (L2H.cxH CX0 P w K mg base N qual scope f cdv A outer s H E0 p) [] σ' H' s' → RelV v u → Q v H' → CE outer P w H s Q u s' := fun {σ' H' v u} I r q => ⟨v, H', I.os, I.bare, I.base, I.hok, r, q⟩
    cases fl with
    | ret u => obtain ⟨v, σ', H', I, r, q⟩ := hs; exact fin I r q
    | next => obtain ⟨σ', H', I, q⟩ := hs; exact fin (v := V.non) (u := Value.none) I rfl q
    | brk => obtain ⟨_, _, _, q⟩ := hs; exact q.elim
    | cont => obtain ⟨_, _, _, q⟩ := hs; exact q.elim
/-- such a def, called by its name -/
structure CalP (P : Program) (w : World) (K : PySem.W.Frag) (mg : Str → Option Value) (base : Heap) (x : Str) (k : Nat) (sp : SpP) : Prop where
  ex : ∃ (f : Addr) (fd : FuncData) (ps : List Str), mg x = some (.ref f) ∧ PySem.W.keepIn K (.ref f) = true ∧ FnP P w K mg base k f fd ps sp ∧ Binds K fd ps []
section
variable {X : Cx} {B : BT} {x : Str} {k : Nat} {sp : SpP} {q pos : Pos} {e : Expr} {es : List Expr} {t : TA3} {p : Addr × Obj} {C : Addr} {dx : Option Addr}
theorem le_callP (hx : CalP X.prog X.w X.K X.mg X.base x k sp) (room : L2H.RoomH k X.A) (hp : p ∈ X.pn) (hot : IsHot X.A p C dx) (ha : LA X B (e :: es) t) (hg : Gl X x := by rfl) (hdb : (x == ("__debug__" : Str)) = false := by decide)
    (he : starEach (e :: es) X.env = (false, eval e X.env) :: starEach es X.env := by rfl) (hpl : (backTo pos (starEach es X.env)).any (·.1) = false := by rfl) : LE X B (.Call (.Name x q) (e :: es) [] pos) (lCall (sp p.1 C dx) [] t) := by
  obtain ⟨f, fd, ps, hm, hk, F, hb⟩ := hx.ex
  refine ⟨fun pins s σ H Q I h => ?_⟩
  obtain ⟨Fz, tv, τ, G, Q3, hB, r, ht, kk⟩ := h
  refine wpAny_Call_Name_kw (ld_glob I hg hm ?_ hdb)
  refine PySem.W.callWith_K (h₀ := X.base) I.ok.mod.kin hk (thn (ha.run pos pins s σ H (fun vs H1 => low X.K (sp p.1 C dx) vs H1 Q E0) I (embA.mk hB r ht fun vs H1 Fz1 ds G1 rs r1 h1 => ?_)) fun us s1 ⟨vs, H1, I1, rv, hsp⟩ => ⟨I1.kIn, ?_⟩) he hpl
  · rw [List.append_nil] at h1
    exact low_of r1 rs h1 kk
  · have hl : us.length = ps.length := by
      rw [← rv.length]
      obtain ⟨_, _, ds, _, _, _, _, rs, h1, _⟩ := hsp
      rw [rs.len]
      exact F.len _ _ _ _ _ _ h1
    have b := hb s1 us I1.kIn (by rw [List.append_nil]; exact hl)
    rw [List.append_nil] at b
    have P1 := I1.pin p (List.mem_append_left _ hp)
    have pok : L2H.PinOk X.stack H1 s1 p := ⟨P1.1, P1.2.1, fun hm' => (List.mem_cons.mp (I1.stkSub p.1 hm')).elim P1.2.2.1 P1.2.2.2.1, P1.2.2.2.2⟩
    refine wpAny_call (codeAny_mono (F.run X.A X.stack s1 H1 ⟨us, []⟩ us vs Q p C dx room hot pok I1.env0 b rv hsp) fun r2 s2 hr2 => ?_)
    cases r2 with
    | error _ => exact False.elim hr2
    | ok fl => cases fl with
      | ret u => exact I1.after hr2
      | next => exact False.elim hr2
      | brk => exact False.elim hr2
      | cont => exact False.elim hr2
theorem hot_suite {X : Cx} {a : Addr} {oe : Obj} {pn : List (Addr × Obj)} (z : L2N.Zn (.ref C) dx oe) (f : ∃ vs, oe.data = .fields vs) : IsHot (X.suite a ((a, oe) :: pn)).A (a, oe) C dx := by
  obtain ⟨vs, hv⟩ := f
  exact ⟨⟨rfl, vs, hv, z.2.2 vs hv⟩, z, vs, hv⟩
end

/-! ### isinstance of it -/
section
variable {X : Cx} {B : BT} {p : Addr × Obj} {C : Addr} {dx : Option Addr}
/-- isinstance(e, c), e the handled exception, its dict at dx -/
def rIsD (K : PySem.W.Frag) (D a : Addr) (dx : Option Addr) : List V → Hp → VK → Prop := fun xs H Q => ∃ (c : V) (cv : Value) (b : Bool), xs = [.ref a, c] ∧ (∀ u, RelV c u → u = cv) ∧ PySem.W.kitOne K (.ref D) cv = some b ∧ (∀ dd, dx = some dd → ∃ fs, H dd = some (.xd fs)) ∧ Q (.bl b) H
theorem call_isP (T : ExcC X.K C) (hp : p ∈ X.pn) (hot : IsHot X.A p C dx) : CallR X (.builtin "isinstance") (rIsD X.K C p.1 dx) := by
  intro pins s σ H xs us Q I r h
  obtain ⟨c, cv, b, rfl, hcv, e, hdd, q⟩ := h
  cases r with
  | cons rx rr =>
    cases rr with
    | cons rt rr =>
      cases rr
      cases rx
      cases hcv _ rt
      obtain ⟨hget, _⟩ := I.pin p (List.mem_append_left _ hp)
      obtain ⟨vs, hv⟩ := hot.fl
      obtain ⟨z1, z2, _⟩ := hot.zn
      have nc : PySem.W.notCls p.2 = true := by unfold PySem.W.notCls; rw [hv] <;> rfl
      obtain ⟨od, J⟩ : ∃ od, PySem.W.InstAt s.heap p.1 p.2 C od := by
        cases dx with
        | none => exact ⟨none, hget, z1, nc, by rw [z2]; trivial⟩
        | some dd =>
          obtain ⟨fs, hfs⟩ := hdd dd rfl
          have hx : ObjOk X.prog X.w H s.heap dd (.xd fs) := I.hok dd _ hfs
          obtain ⟨mA, ⟨o, es, ep, ho, _⟩, _⟩ := hx
          exact ⟨some o, hget, z1, nc, by rw [z2]; exact ho⟩
      have kc : (PySem.W.clsIn X.K C).isSome = true := by obtain ⟨cd, hc, _⟩ := PySem.W.any_some T.hd; rw [hc]; rfl
      exact PySem.W.kia_one (PySem.W.kitx_exc kc T.hg T.hk T.hs T.ha T.hn T.ht T.hm) I.kIn J e (fun z => nomatch z) fun tk => ⟨.bl b, H, I.kept (t' := tk) fun _ _ z => z, rfl, q⟩
/-- isinstance(e, x), e the handled exception -/
def lIsP (a : Addr) (dx : Option Addr) (b : Bool) (te : TE3) : TE3 := fun τ G Q => te τ G fun d G1 => match d with
  | .ref a' => a' = a ∧ (∀ dd, dx = some dd → ∃ fs, G1 dd = some (.xd fs)) ∧ Q (.bl b) G1
  | _ => False
theorem xd_at {K : PySem.W.Frag} {Fz : Addr → Prop} {H : Hp} {G : Gp} {dx : Option Addr} (h : HRel K Fz H G) (z : ∀ dd, dx = some dd → ∃ fs, G dd = some (.xd fs)) : ∀ dd, dx = some dd → ∃ fs, H dd = some (.xd fs) := fun dd e => by
  obtain ⟨fs, hfs⟩ := z dd e
  obtain ⟨vs, e, _⟩ := (h.go dd _ hfs).2
  exact ⟨vs, e⟩
/-- what the classes' names say of it -/
structure ExK (K : PySem.W.Frag) (mg : Str → Option Value) (C : Addr) (isa : Str → Bool) (own : List Str) (blt : List Str) : Prop where
  exc : ExcC K C
  own : ∀ x ∈ own, ∃ Cx, mg x = some (.ref Cx) ∧ PySem.W.kitOne K (.ref C) (.ref Cx) = some (isa x)
  blt : ∀ x ∈ blt, mg x = none ∧ ∃ n, bootBuiltins x = some (.type n) ∧ PySem.W.kitOne K (.ref C) (.type n) = some (isa x)
variable {e : Expr} {te : TE3} {isa : Str → Bool} {own blt : List Str} {q q2 pos : Pos}
theorem le_isPo (x : Str) (T : ExK X.K X.mg C isa own blt) (hp : p ∈ X.pn) (hot : IsHot X.A p C dx) (hm : X.mg "isinstance" = none) (he : LE X B e te) (hx : x ∈ own := by decide) (hg : Gl X "isinstance" := by rfl) (hgx : Gl X x := by rfl) (hd : (x == ("__debug__" : Str)) = false := by decide)
    (hs : starEach [e, .Name x q2] X.env = (false, eval e X.env) :: starEach [.Name x q2] X.env := by rfl) (hpl : (backTo pos (starEach [.Name x q2] X.env)).any (·.1) = false := by rfl) : LE X B (.Call (.Name "isinstance" q) [e, .Name x q2] [] pos) (lIsP p.1 dx (isa x) te) := by
  obtain ⟨Cx, hmx, hk⟩ := T.own x hx
  exact (pe_callB (call_isP T.exc hp hot) hg hm PyProof.Rows.boot_isinstance (pa_cons he (pa_cons (pe_glob (v := .ref Cx) hgx hmx rfl hd) pa_nil (by rfl)) hs) (by decide) (by decide) hs hpl).imp fun σ H Q ⟨Fz, tv, τ, G, Q3, hB, r, ht, k⟩ => emb.mk hB r ht fun v H1 Fz1 d G1 r1 h1 => by
    cases d with
    | ref a' => exact ⟨.ref Cx, .ref Cx, isa x, by rw [r1.h1.inv_ref, h1.1], fun u hu => hu, hk, xd_at r1.hr h1.2.1, k _ _ (.mk r1.tl (.bl _) h1.2.2)⟩
    | _ => exact h1.elim
theorem le_isPt (x : Str) (T : ExK X.K X.mg C isa own blt) (hp : p ∈ X.pn) (hot : IsHot X.A p C dx) (hm : X.mg "isinstance" = none) (he : LE X B e te) (hx : x ∈ blt := by decide) (hg : Gl X "isinstance" := by rfl) (hgx : Gl X x := by rfl) (hn : x ≠ "__name__" := by decide) (hd : (x == ("__debug__" : Str)) = false := by decide)
    (hs : starEach [e, .Name x q2] X.env = (false, eval e X.env) :: starEach [.Name x q2] X.env := by rfl) (hpl : (backTo pos (starEach [.Name x q2] X.env)).any (·.1) = false := by rfl) : LE X B (.Call (.Name "isinstance" q) [e, .Name x q2] [] pos) (lIsP p.1 dx (isa x) te) := by
  obtain ⟨hmx, n, hv, hk⟩ := T.blt x hx
  exact (pe_callB (call_isP T.exc hp hot) hg hm PyProof.Rows.boot_isinstance (pa_cons he (pa_cons (pe_bltn (v := .ty n) hgx hmx hv rfl hn hd) pa_nil (by rfl)) hs) (by decide) (by decide) hs hpl).imp fun σ H Q ⟨Fz, tv, τ, G, Q3, hB, r, ht, k⟩ => emb.mk hB r ht fun v H1 Fz1 d G1 r1 h1 => by
    cases d with
    | ref a' => exact ⟨.ty n, .type n, isa x, by rw [r1.h1.inv_ref, h1.1], fun u hu => hu, hk, xd_at r1.hr h1.2.1, k _ _ (.mk r1.tl (.bl _) h1.2.2)⟩
    | _ => exact h1.elim
end

/-! ### xs.count(y), xs.index(y): flat items -/
def rCntF (K : PySem.W.Frag) : V → List V → Hp → VK → Prop := fun x xs H Q => ∃ (a : Addr) (ys : List V) (y : V), x = .ref a ∧ xs = [y] ∧ SqL K H a ys ∧ flatV y = true ∧ ys.all flatV = true ∧ Q (.int ((ys.countP fun z => eqV z y) : Nat)) H
theorem count_eqU {y : V} : ∀ {ys : List V} {us : List Value}, Vals ys us → ys.all flatV = true → us.countP (eqU y) = ys.countP fun z => eqV z y
  | _, _, .nil, _ => rfl
  | z :: ys, u :: us, .cons r t, f => by
    rw [List.all_cons, Bool.and_eq_true] at f
    rw [List.countP_cons, List.countP_cons, eqU_of r f.1, count_eqU t f.2]
section
variable {X : Cx}
theorem mt_countF : MtR X "list.count" (rCntF X.K) := by
  intro pins s σ H x xs v us Q I rx rxs h
  obtain ⟨a, ys, y, rfl, rfl, hs, fy, fys, q⟩ := h
  cases rx
  cases rxs with
  | cons ry rt =>
    rename_i uy ut
    cases rt
    obtain ⟨its, rv, ⟨⟨cls, dd, data, sl⟩, n, ho, hc, hdn, hd⟩, hlen⟩ := I.list hs
    simp only at hc hd
    subst hc hd
    refine call_meets PySem.F.slot_list_count ⟨_, ho, rfl⟩ PySem.F.entry_list_count (PySem.F.args_list_count_2 _ _) (SeqAt.list_countAt a its.toArray n dd sl uy (eqU y)) ⟨ho, fun u hu => mem_eqAt ry fy rv fys u (by simpa using hu), ?_⟩
    refine ⟨.int ((ys.countP fun z => eqV z y) : Nat), H, I.tok _, ⟨s.toks, ?_⟩, q⟩
    show Value.int ((its.countP (eqU y) : Nat) : Int) s.toks = _
    rw [count_eqU rv fys]
end
/-- flat data -/
def flD : D → Option V
  | .non => some .non
  | .bl b => some (.bl b)
  | .int i => some (.int i)
  | .str x => some (.str x)
  | _ => none
def flDs : List D → Option (List V)
  | [] => some []
  | d :: r => match flD d, flDs r with
    | some v, some vs => some (v :: vs)
    | _, _ => none
theorem flD_val {K : PySem.W.Frag} {Fz : Addr → Prop} {H : Hp} {v w : V} {d : D} (r : Rep K Fz H v d) (e : flD d = some w) : v = w ∧ flatV w = true := by
  cases d with
  | non => cases e; exact ⟨r.inv_non, rfl⟩
  | bl b => cases e; exact ⟨r.inv_bl, rfl⟩
  | int b => cases e; exact ⟨r.inv_int, rfl⟩
  | str b => cases e; exact ⟨r.inv_str, rfl⟩
  | _ => cases e
theorem flDs_vals {K : PySem.W.Frag} {Fz : Addr → Prop} {H : Hp} : ∀ {ds : List D} {vs ws : List V}, Reps K Fz H vs ds → flDs ds = some ws → vs = ws ∧ ws.all flatV = true
  | [], vs, ws, r, e => by cases e; exact ⟨r.inv_nil, rfl⟩
  | d :: ds, vs, ws, r, e => by
    obtain ⟨v, us, rfl, r1, r2⟩ := r.inv_cons
    unfold flDs at e
    cases e1 : flD d with
    | none => rw [e1] at e; cases e
    | some w =>
      cases e2 : flDs ds with
      | none => rw [e1, e2] at e; cases e
      | some wr =>
        rw [e1, e2] at e
        cases e
        obtain ⟨a1, a2⟩ := flD_val r1 e1
        obtain ⟨b1, b2⟩ := flDs_vals r2 e2
        rw [a1, b1]
        exact ⟨rfl, by rw [List.all_cons, a2, b2]; rfl⟩
/-- the place of the first that is equal -/
def firstAt (y : V) : List V → Option Nat
  | [] => none
  | z :: r => if eqV z y = true then some 0 else (firstAt y r).map (· + 1)
theorem firstAt_spec {y : V} : ∀ {vs : List V} {j : Nat}, firstAt y vs = some j → (∃ z, vs[j]? = some z ∧ eqV z y = true) ∧ ∀ m z', m < j → vs[m]? = some z' → eqV z' y = false
  | [], j, e => by cases e
  | z :: r, j, e => by
    unfold firstAt at e
    by_cases hz : eqV z y = true
    · rw [if_pos hz] at e
      cases e
      exact ⟨⟨z, rfl, hz⟩, fun m z' h _ => absurd h (Nat.not_lt_zero m)⟩
    · rw [if_neg hz] at e
      cases e2 : firstAt y r with
      | none => rw [e2] at e; cases e
      | some i =>
        rw [e2] at e
        cases e
        obtain ⟨⟨z1, a, b⟩, c⟩ := firstAt_spec e2
        refine ⟨⟨z1, by simpa using a, b⟩, fun m z' h q => ?_⟩
        cases m with
        | zero =>
          have : z = z' := by simpa using q
          rw [← this]
          exact Bool.eq_false_iff.mpr hz
        | succ m =>
        have h' : m + 1 < i + 1 := h
        exact c m z' (by omega) (by simpa using q)
/-- xs.count(y) -/
def lCnt (to te : TE3) : TE3 := fun τ G Q => to τ G fun d G1 => (lstOf G1 d).isSome = true ∧ te τ G1 fun y G2 => match (lstOf G2 d).bind flDs, flD y with
  | some vs, some w => Q (.int ((vs.countP fun z => eqV z w) : Nat)) G2
  | _, _ => False
/-- xs.index(y), y among them -/
def lIdx (to te : TE3) : TE3 := fun τ G Q => to τ G fun d G1 => (lstOf G1 d).isSome = true ∧ te τ G1 fun y G2 => match (lstOf G2 d).bind flDs, flD y with
  | some vs, some w => (match firstAt w vs with
    | some j => Q (.int (j : Nat)) G2
    | none => False)
  | _, _ => False
section
variable {X : Cx} {B : BT} {o e : Expr} {apos cpos : Pos} {to te : TE3}
theorem fl_at {K : PySem.W.Frag} {Fz : Addr → Prop} {H : Hp} {G : Gp} {v : V} {d : D} {vs : List V} (h : HRel K Fz H G) (r : Rep K Fz H v d) (e : (lstOf G d).bind flDs = some vs) : ∃ a, v = .ref a ∧ SqL K H a vs ∧ vs.all flatV = true := by
  cases e2 : lstOf G d with
  | none => rw [e2] at e; cases e
  | some ds =>
    rw [e2] at e
    obtain ⟨a, us, rfl, h1, rq⟩ := lst_at h r e2
    obtain ⟨eu, hf⟩ := flDs_vals rq e
    rw [eu] at h1
    exact ⟨a, rfl, SqL.of h1, hf⟩
theorem tyL_at {K : PySem.W.Frag} {Fz : Addr → Prop} {H : Hp} {G : Gp} {v : V} {d : D} (h : HRel K Fz H G) (r : Rep K Fz H v d) (e : (lstOf G d).isSome = true) : tyV K "list" v H := by
  obtain ⟨ds, e2⟩ := Option.isSome_iff_exists.mp e
  obtain ⟨a, us, rfl, h1, _⟩ := lst_at h r e2
  exact .inl ⟨rfl, us, SqL.of h1⟩
theorem le_cnt (ho : LE X B o to) (he : LE X B e te) (hs : starEach [e] X.env = (false, eval e X.env) :: starEach [] X.env := by rfl) (hbase : attributeBase o "count" X.env (eval o X.env) = eval o X.env := by rfl)
    (hfew : ((backTo cpos (starEach [e] X.env)).all (fun x => !x.1) && (backToKw cpos (keywordEach [] X.env)).all (fun x => x.1.isSome) && decide ([e].length + ([] : List Keyword).length + (if ([] : List Keyword).isEmpty then 0 else 1) < 30)) = true := by rfl)
    (hline : (apos.endLine == cpos.line) = true := by rfl) : LE X B (.Call (.Attribute o "count" apos) [e] [] cpos) (lCnt to te) :=
  (pe_bm PySem.F.plainAttrs_list PySem.F.slot_list_count PySem.F.type_list_count mt_countF ho (la_cons he la_nil hs) hbase hfew hline hs rfl).imp fun σ H Q ⟨Fz, tv, τ, G, Q3, hB, r, ht, k⟩ => emb.mk hB r ht fun v H1 Fz1 d G1 r1 h1 => by
    refine ⟨tyL_at r1.hr r1.h1 h1.1, embA.mk (Q3 := fun ds G2 => match ds with
      | [y] => (match (lstOf G2 d).bind flDs, flD y with
        | some vs, some w => Q3 (.int ((vs.countP fun z => eqV z w) : Nat)) G2
        | _, _ => False)
      | _ => False) (subB hB) r1 h1.2 fun ws H2 Fz2 ds G2 rs r2 h2 => ?_⟩
    match ds, h2 with
    | [y], h3 =>
      have h3 : (match (lstOf G2 d).bind flDs, flD y with
        | some vs, some w => Q3 (.int ((vs.countP fun z => eqV z w) : Nat)) G2
        | _, _ => False) := h3
      split at h3
      · rename_i vs w e1 e2
        obtain ⟨u, rfl, ru⟩ := rs.one_inv
        obtain ⟨a, ea, hs2, hf⟩ := fl_at r2.hr r2.h1 e1
        obtain ⟨eu, hw⟩ := flD_val ru e2
        rw [eu]
        exact ⟨a, vs, w, ea, rfl, hs2, hw, hf, k _ _ (.mk r2.tl (.int _) h3)⟩
      · exact h3.elim
    | [], h3 => exact h3.elim
    | _ :: _ :: _, h3 => exact h3.elim
theorem le_idx (ho : LE X B o to) (he : LE X B e te) (hs : starEach [e] X.env = (false, eval e X.env) :: starEach [] X.env := by rfl) (hbase : attributeBase o "index" X.env (eval o X.env) = eval o X.env := by rfl)
    (hfew : ((backTo cpos (starEach [e] X.env)).all (fun x => !x.1) && (backToKw cpos (keywordEach [] X.env)).all (fun x => x.1.isSome) && decide ([e].length + ([] : List Keyword).length + (if ([] : List Keyword).isEmpty then 0 else 1) < 30)) = true := by rfl)
    (hline : (apos.endLine == cpos.line) = true := by rfl) : LE X B (.Call (.Attribute o "index" apos) [e] [] cpos) (lIdx to te) :=
  (pe_bm PySem.F.plainAttrs_list PySem.F.slot_list_index PySem.F.type_list_index mt_index ho (la_cons he la_nil hs) hbase hfew hline hs rfl).imp fun σ H Q ⟨Fz, tv, τ, G, Q3, hB, r, ht, k⟩ => emb.mk hB r ht fun v H1 Fz1 d G1 r1 h1 => by
    refine ⟨tyL_at r1.hr r1.h1 h1.1, embA.mk (Q3 := fun ds G2 => match ds with
      | [y] => (match (lstOf G2 d).bind flDs, flD y with
        | some vs, some w => (match firstAt w vs with
          | some j => Q3 (.int (j : Nat)) G2
          | none => False)
        | _, _ => False)
      | _ => False) (subB hB) r1 h1.2 fun ws H2 Fz2 ds G2 rs r2 h2 => ?_⟩
    match ds, h2 with
    | [y], h3 =>
      have h3 : (match (lstOf G2 d).bind flDs, flD y with
        | some vs, some w => (match firstAt w vs with
          | some j => Q3 (.int (j : Nat)) G2
          | none => False)
        | _, _ => False) := h3
      split at h3
      · rename_i vs w e1 e2
        obtain ⟨u, rfl, ru⟩ := rs.one_inv
        obtain ⟨a, ea, hs2, hf⟩ := fl_at r2.hr r2.h1 e1
        obtain ⟨eu, hw⟩ := flD_val ru e2
        rw [eu]
        split at h3
        · rename_i j ej
          obtain ⟨⟨z, hz, hzj⟩, hno⟩ := firstAt_spec ej
          exact ⟨a, vs, w, j, z, ea, rfl, hs2, hw, hf, hz, hzj, hno, k _ _ (.mk r2.tl (.int _) h3)⟩
        · exact h3.elim
      · exact h3.elim
    | [], h3 => exact h3.elim
    | _ :: _ :: _, h3 => exact h3.elim
end

/-! ### {'a': 'b', ..} written -/
def kvL (l : List (Str × Str)) : List (Key × V) := l.map fun p => ((Sum.inr p.1 : Key), V.str p.2)
def kdL (l : List (Str × Str)) : List (Key × D) := l.map fun p => ((Sum.inr p.1 : Key), D.str p.2)
def trL : List (Str × Str) → List (TE × TE)
  | [] => []
  | (a, b) :: r => (tC (.str a), tC (.str b)) :: trL r
theorem pairs_trL {σ : L2.St} {H : Hp} {Q : List (V × V) → Hp → Prop} : ∀ (l : List (Str × Str)) {Q : List (V × V) → Hp → Prop}, Q ((kvL l).map fun kv => (kV kv.1, kv.2)) H → tPairs (trL l) σ H Q
  | [], _, h => h
  | (a, b) :: r, _, h => pairs_trL (σ := σ) (Q := Q) r h
theorem rep_kdL {K : PySem.W.Frag} {Fz : Addr → Prop} {H : Hp} (l : List (Str × Str)) : RepKs K Fz H (kvL l) (kdL l) :=
  ⟨by simp [kvL, kdL], fun i p q a b => by
    unfold kvL at a
    unfold kdL at b
    rw [List.getElem?_map] at a b
    cases e : l[i]? with
    | none => rw [e] at a; cases a
    | some y => rw [e] at a b; cases a; cases b; exact .str _⟩
theorem le_dlit {X : Cx} {B : BT} {pos : Pos} {keys : List (Option Expr)} {values : List Expr} (l : List (Str × Str)) (h : PPs X pos keys values (trL l)) (hm : mergeK [] (kvL l) = kvL l) (h15 : l.length ≤ 15) (hall : keys.all (·.isSome) = true := by rfl) (hl : keys.length = values.length := by rfl)
    (h0 : keys ≠ [] := by exact fun z => nomatch z) (hk : keys.length ≤ 15 := by decide) : LE X B (.Dict keys values pos) (lC (.dic (kdL l))) :=
  (pe_disp h hall hl h0 hk).imp fun σ H Q ⟨Fz, tv, τ, G, Q3, hB, r, ht, k⟩ => fun p hp => pairs_trL (Q := fun _ _ => True) l ⟨upd_same, kvL l, rfl, by unfold kvL; rw [List.length_map]; exact h15, by
    rw [hm]
    have e : upd (upd H p (.dK [])) p (.dK (kvL l)) = upd H p (.dK (kvL l)) := by
      funext b
      by_cases hb : b = p
      · rw [hb, upd_same, upd_same]
      · rw [upd_ne hb, upd_ne hb, upd_ne hb]
    rw [e]
    exact k _ _ (.mk (r.new hp) (Rep.mk_dic Rel.stl (rep_kdL l)) ht)⟩

/-! ### a comprehension over a written text where an exception is handled -/
theorem le_lcH {X : Cx} {B : BT} {tg elt : Expr} {x : Str} {scope : Scope} {pos ipos : Pos} {ik : Nat} {g : TG3} {te : TE3} {ms : List Nat} (own : List (Str × Nat)) (hc : L2H.HotC X) (hN : X.N.Nodup) (ok : BlkOk X.N X.env.scope scope own)
    (hg : ∀ (s : Shared) (H : Hp) (C : Addr) (cl : List (Str × Addr)) (fp : List Addr), LG (X.blk s H scope (compEnvC scope cl C X.env) fp) B ms tg g)
    (he : ∀ (s : Shared) (H : Hp) (C : Addr) (cl : List (Str × Addr)) (fp : List Addr), LE (X.blk s H scope (compEnvC scope cl C X.env) fp) B elt te) (hasc : x.cps.all (· < 128) = true := by decide +kernel) (hms : ∀ i ∈ ms, i ∈ own.map (·.2) := by decide) :
    LE X B (.ListComp elt [⟨tg, .Constant (.str x) ik ipos, [], 0⟩] scope pos) (lLc (iStr3 (lC (.str x))) g tYes3 te (own.map (·.2))) := by
  refine (pe_lcHot (g := embG X.K B ms g) (te := emb X.K B te) (tt := embT X.K B tYes3) hc hN hasc ok hg (fun _ _ _ _ _ => lts_nil.run) he).imp fun σ H Q h => ?_
  obtain ⟨Fz, tv, τ, G, R3, hB, r, ht, k⟩ := tLc_of hms h
  exact ⟨x, rfl, k (Its x) H Fz tv (sgL x) G (fun p hp => hp) r sims_str ht⟩
theorem rh_mark {k : Nat} {A : Around} {h : Option Value} (hr : Room k A) : L2H.RoomH k (A.mark h) := ⟨hr.dp, hr.un⟩
theorem rhU {k : Nat} {A : Around} (hr : L2H.RoomH k A) : A.units + 64 < cLine := by have := hr.un; omega
theorem rh65 {k : Nat} {A : Around} (hr : L2H.RoomH k A) : A.units + 65 < cLine := by have := hr.un; omega
theorem rh1 {k : Nat} {A : Around} (hr : L2H.RoomH k A) : A.units + 1 < cLine := by have := hr.un; omega
section
variable {X : Cx}
theorem op_isnot_bl : OpR X (compareOp .IsNot) (fun x y H Q => ∃ a b, x = .bl a ∧ y = .bl b ∧ Q (.bl (!decide (a = b))) H) := by
  intro pins s σ H x y v u Q I rx ry h
  obtain ⟨a, b, rfl, rfl, q⟩ := h
  cases rx
  cases ry
  show wpAny _ _ ((isSame (Value.bool a) (Value.bool b)) >>= fun z => pure (Value.bool (!z))) _ _ s
  refine wpAny_bind (wpAny_of_eq (a := decide (a = b)) (by cases a <;> cases b <;> rfl) (wpAny_pure (fin_bl I q rfl)))
theorem op_is_bl : OpR X (compareOp .Is) (fun x y H Q => ∃ a b, x = .bl a ∧ y = .bl b ∧ Q (.bl (decide (a = b))) H) := by
  intro pins s σ H x y v u Q I rx ry h
  obtain ⟨a, b, rfl, rfl, q⟩ := h
  cases rx
  cases ry
  show wpAny _ _ ((isSame (Value.bool a) (Value.bool b)) >>= fun z => pure (Value.bool z)) _ _ s
  refine wpAny_bind (wpAny_of_eq (a := decide (a = b)) (by cases a <;> cases b <;> rfl) (wpAny_pure (fin_bl I q rfl)))
end
end L3
end

section
set_option Elab.async false
set_option linter.all false
set_option maxRecDepth 100000
set_option maxHeartbeats 4000000
/-! L3ex: what is raised with a field, by data: raise, try, defs that return or raise, a lambda handed to a def. -/
namespace L3
open PySem PySem.Spec PyProof.Rows L2 LamX

/-- what is wished of an exception: its class, its dict, the names' state, the things -/
abbrev WE3 := Addr → Option Addr → T3 → Gp → Prop
def wE (K : PySem.W.Frag) (B : BT) (w : WE3) : WX := fun cls d σ H => ∃ (C : Addr) (Fz : Addr → Prop) (τ : T3) (G : Gp), cls = .ref C ∧ Rel K B τ G Fz σ H ∧ w C d τ G
/-- raise C(e), its field f -/
def sRaise1 (C : Addr) (f : Str) (te : TE3) (w : WE3) : TS3 := fun _ τ G => te τ G fun y G1 => ∀ dd, G1 dd = none → w C (some dd) τ (gup G1 dd (.xd [(f, y)]))
section
variable {X : Cx} {B : BT} {x f : Str} {C fI : Addr} {k : Nat} {fd : FuncData} {ps : List Str} {p pos pos' : Pos} {w : WE3} {e : Expr} {te : TE3} {Bn newId initId : String} {bmB : List Value}
theorem ls_raise1 (hc : X.calm = true) (tk : L2N.Takes X (wE X.K B w)) (T : XiC X.K C Bn newId initId bmB) (iC : PySem.W.findIn X.K (.ref C) "__init__" = some (some (.ref fI))) (tI : PySem.W.typeIn X.K (.ref fI) = some (.type "function"))
    (F1 : FnOk X.prog X.w X.K X.mg X.base CX0 k fI fd ps (spXi C f)) (room : Room (k + 1) X.A) (hb : Binds X.K fd ps []) (hm : X.mg x = some (.ref C)) (he : LE X B e te) (hg : Gl X x := by rfl) (hdb : (x == ("__debug__" : Str)) = false := by decide)
    (hst : starEach [e] X.env = (false, eval e X.env) :: starEach [] X.env := by rfl) (hpl : (backTo pos (starEach [] X.env)).any (·.1) = false := by rfl) : LS X B (.Raise (some (.Call (.Name x p) [e] [] pos)) none pos') (sRaise1 C f te w) :=
  (L2N.ps_raise hc tk (pmk_xi T iC tI F1 room hb hg hm he hdb hst hpl)).imp fun D σ H ⟨Fz, tv, τ, G, D3, hB, r, ht, k⟩ => emb.mk hB r ht fun v H1 Fz1 y G1 r1 h1 => fun d hd => by
    have hn : HRel X.K Fz1 (upd H1 d (.xd [(f, v)])) (gup G1 d (.xd [(f, y)])) := r1.hr.newG hd ⟨_, upd_same, .cons (r1.h1.ext (Ext.newG r1.hr hd)) .nil⟩
    exact ⟨C, Fz1, τ, _, rfl, (r1.tl.ext (Ext.newG r1.hr hd) hn).sub hB, h1 d (r1.hr.free hd)⟩
end
/-! ### defs that return or raise -/
abbrev W0 := Addr → Option Addr → Gp → Prop
abbrev SpE := List D → Gp → K3 → W0 → Prop
def lowE (K : PySem.W.Frag) (sp : SpE) : Sp := fun vs H Q E => ∃ (Fz : Addr → Prop) (tv : BT) (ds : List D) (G : Gp) (Q3 : K3) (w : W0), HRel K Fz H G ∧ (∀ p ∈ tv, Rep K Fz H p.1 p.2) ∧ Reps K Fz H vs ds ∧ sp ds G Q3 w ∧
  (∀ v H' Fz' d G', HRel K Fz' H' G' → (∀ p ∈ tv, Rep K Fz' H' p.1 p.2) → Rep K Fz' H' v d → Q3 d G' → Q v H') ∧ ∀ C d H' Fz' G', HRel K Fz' H' G' → (∀ p ∈ tv, Rep K Fz' H' p.1 p.2) → w C d G' → E (.ref C) d H'
theorem fnE_ok {P : Program} {w : World} {K : PySem.W.Frag} {mg : Str → Option Value} {base : Heap} {x qual : Str} {params : Arguments} {body : List Stmt} {scope : Scope} {dvs : List V} {kws : List (Str × V)} {f : Addr} {fd : FuncData} {N ps : List Str} {k : Nat} {sp : SpE}
    (F : FunD K x qual params body scope dvs kws f fd) (S : FnScope N ps scope) (len : ∀ ds G Q w, sp ds G Q w → ds.length = ps.length)
    (hbody : ∀ (cdv : Value) (A : Around) (outer : List Env) (s : Shared) (H : Hp) (E : XK) (B : BT) (w3 : WE3), Room k (A.deeper (envOfC qual scope s.heap.objs.size f cdv)) → L2N.Takes (cxOf (L2N.CX P w) P w K mg base N qual scope f cdv A outer s H E) (wE K B w3) →
      ∃ t, LB (cxOf (L2N.CX P w) P w K mg base N qual scope f cdv A outer s H E) B body t ∧ ∀ ds G Q, sp ds G Q (fun C d G' => ∀ τ, w3 C d τ G') → t { nx := fun _ G' => Q .non G', rt := Q } (start3 N ds) G) : FnOk P w K mg base (L2N.CX P w) (k + 1) f fd ps (lowE K sp) := by
  refine F.ok S (fun vs H Q E h => ?_) fun cdv A outer s H vs Q E hr h => ?_
  · obtain ⟨Fz, tv, ds, G, Q3, w3, _, _, rs, h, _⟩ := h
    rw [rs.len]
    exact len ds G Q3 w3 h
  · obtain ⟨Fz, tv, ds, G, Q3, w3, h1, h2, rs, h, kq, kw⟩ := h
    have tk : L2N.Takes (cxOf (L2N.CX P w) P w K mg base N qual scope f cdv A outer s H E) (wE K tv fun C d _ G' => w3 C d G') :=
      (L2N.takes_of (E := E) rfl rfl rfl rfl).imp fun c d σ H' ⟨C, Fz', τ', G', ec, r', hw⟩ => by
        subst ec
        exact kw C d H' Fz' G' r'.hr (fun p hp => r'.tmp p hp) hw
    obtain ⟨t, ht, hq⟩ := hbody cdv A outer s H E tv _ hr tk
    refine ⟨_, ht, Fz, tv, start3 N ds, G, { nx := fun _ G' => Q3 .non G', rt := Q3 }, fun p hp => hp, start_rel N h1 h2 rs, hq ds G Q3 ?_, ?_⟩
    · have e : (fun (C : Addr) (d : Option Addr) (G' : Gp) => ∀ _ : T3, w3 C d G') = w3 := by
        funext C d G'
        exact propext ⟨fun z => z [], fun z _ => z⟩
      rw [e]
      exact h
    · exact ⟨fun σ' τ' G' Fz' H' r q => kq .non H' Fz' .non G' r.hr (fun p hp => r.tmp p hp) .non q, fun d G' v H' Fz' σ' τ' r q => kq v H' Fz' d G' r.hr (fun p hp => r.tmp p (List.mem_cons_of_mem _ hp)) r.h1 q,
        fun _ _ _ _ _ _ q => q.elim, fun _ _ _ _ _ _ q => q.elim⟩
/-! ### try, by clauses -/
def unset3 (D : Ends3) (i : Nat) : Ends3 := { nx := fun τ2 G2 => D.nx (τ2.set i none) G2, rt := D.rt, bk := fun τ2 G2 => D.bk (τ2.set i none) G2, ct := fun τ2 G2 => D.ct (τ2.set i none) G2 }
abbrev Cl3 := List Addr × Nat × (Addr → Addr → Option Addr → TS3)
def wTry (K : PySem.W.Frag) (D : Ends3) : List Cl3 → WE3
  | [] => fun _ _ _ _ => False
  | (cs, i, ts) :: r => fun C d τ G => ∃ b, PySem.W.exmAny K (.ref C) (cs.map .ref) = some b ∧ (b = true → ∀ a, G a = none → ts a C d (unset3 D i) (τ.set i (some (.ref a))) G) ∧ (b = false → wTry K D r C d τ G)
def sTryC (K : PySem.W.Frag) (cl : List Cl3) (tb : WE3 → TS3) : TS3 := fun D τ G => tb (wTry K D cl) D τ G
def lowCl (K : PySem.W.Frag) (cl : List Cl3) : List ClT := cl.map fun c => (c.1.map .ref, c.2.1, fun a cls d D σ H => ∃ C, cls = .ref C ∧ embS K [] (c.2.2 a C d) D σ H)
/-- the clauses as they are written -/
inductive Cls3 (X : Cx) : List ExceptHandler → List Cl3 → Prop
  | nil : Cls3 X [] []
  | one {x n : Str} {c : Addr} {i : Nat} {ts : Addr → Addr → Option Addr → TS3} {b₀ : Stmt} {suite : List Stmt} {np pos' : Pos} {hds : List ExceptHandler} {l : List Cl3} (hc : Names X x (.ref c)) (hi : X.N[i]? = some n) (hln : X.env.kindOf n = some .local)
      (hsu : ∀ (a : Addr) (oe : Obj) (C : Addr) (d : Option Addr) (pn : List (Addr × Obj)), L2N.Zn (.ref C) d oe → (∃ vs, oe.data = .fields vs) → LB (X.suite a ((a, oe) :: pn)) [] (b₀ :: suite) (ts a C d)) (r : Cls3 X hds l) :
      Cls3 X (.ExceptHandler (some (.Name x np)) (some n) (b₀ :: suite) pos' :: hds) (([c], i, ts) :: l)
  | two {x y n : Str} {c e : Addr} {i kk : Nat} {ts : Addr → Addr → Option Addr → TS3} {b₀ : Stmt} {suite : List Stmt} {p1 p2 pt pos' : Pos} {hds : List ExceptHandler} {l : List Cl3} (hc : Names X x (.ref c)) (he : Names X y (.ref e)) (hi : X.N[i]? = some n) (hln : X.env.kindOf n = some .local)
      (hst : backTo pt (starEach [.Name x p1, .Name y p2] X.env) = [(false, eval (.Name x p1) X.env), (false, eval (.Name y p2) X.env)])
      (hsu : ∀ (a : Addr) (oe : Obj) (C : Addr) (d : Option Addr) (pn : List (Addr × Obj)), L2N.Zn (.ref C) d oe → (∃ vs, oe.data = .fields vs) → LB (X.suite a ((a, oe) :: pn)) [] (b₀ :: suite) (ts a C d)) (r : Cls3 X hds l) :
      Cls3 X (.ExceptHandler (some (.Tuple [.Name x p1, .Name y p2] kk pt)) (some n) (b₀ :: suite) pos' :: hds) (([c, e], i, ts) :: l)
theorem Cls3.low {X : Cx} {hds : List ExceptHandler} {cl : List Cl3} (h : Cls3 X hds cl) : ClsOk X hds (lowCl X.K cl) := by
  have su : ∀ {b₀ : Stmt} {suite : List Stmt} {ts : Addr → Addr → Option Addr → TS3}, (∀ (a : Addr) (oe : Obj) (C : Addr) (d : Option Addr) (pn : List (Addr × Obj)), L2N.Zn (.ref C) d oe → (∃ vs, oe.data = .fields vs) → LB (X.suite a ((a, oe) :: pn)) [] (b₀ :: suite) (ts a C d)) →
      ∀ (a : Addr) (oe : Obj) (cls : Value) (d : Option Addr) (pn : List (Addr × Obj)), L2N.Zn cls d oe → (∃ vs, oe.data = .fields vs) → PSs (X.suite a ((a, oe) :: pn)) (b₀ :: suite) (fun D σ H => ∃ C, cls = .ref C ∧ embS X.K [] (ts a C d) D σ H) :=
    fun hsu a oe cls d pn hz hfl => ⟨fun pins s σ H D I ⟨C, ec, h⟩ => by subst ec; exact (hsu a oe C d pn hz hfl).run pins s σ H D I h⟩
  induction h with
  | nil => exact .nil
  | one hc hi hln hsu _ ih => exact .one hc hi hln (su hsu) ih
  | two hc he hi hln hst hsu _ ih => exact .two hc he hi hln hst (su hsu) ih
theorem wTry_low {K : PySem.W.Frag} {tv : BT} {D3 : Ends3} {D : Ends} (k : SubE K tv D3 D) {d : Option Addr} {C : Addr} {τ : T3} {G : Gp} {Fz : Addr → Prop} {σ : L2.St} {H : Hp} (r : Rel K tv τ G Fz σ H) :
    ∀ {cl : List Cl3}, wTry K D3 cl C d τ G → wCl K D (lowCl K cl) (.ref C) d σ H
  | [], h => h
  | (cs, i, ts) :: cl, ⟨b, e, yes, no⟩ => by
    refine ⟨b, e, fun hb a ha => ⟨C, rfl, Fz, tv, _, G, _, fun p hp => absurd hp (by simp), r.set (.ref a) i, yes hb a (r.hr.free ha), ?_⟩, fun hb => wTry_low k r (no hb)⟩
    exact ⟨fun σ2 τ2 G2 Fz2 H2 r2 q => k.nx _ _ G2 Fz2 H2 (r2.unset i) q, fun d G2 v H2 Fz2 σ2 τ2 r2 q => k.rt d G2 v H2 Fz2 σ2 τ2 r2 q, fun σ2 τ2 G2 Fz2 H2 r2 q => k.bk _ _ G2 Fz2 H2 (r2.unset i) q, fun σ2 τ2 G2 Fz2 H2 r2 q => k.ct _ _ G2 Fz2 H2 (r2.unset i) q⟩
section
variable {X : Cx} {B : BT} {body : List Stmt} {h₀ : ExceptHandler} {hds : List ExceptHandler} {cl : List Cl3} {pos : Pos} {tb : WE3 → TS3}
theorem ls_tryC (hs : X.stack = X.env :: X.outer) (hf : X.env.frame = some X.env.locals) (hN : X.N.Nodup)
    (hb : ∀ (w : WE3) (B' : BT) (pn : List (Addr × Obj)) (xe : Value → Shared → Prop), (∀ p ∈ B, p ∈ B') → L2N.Takes (X.tr pn xe) (wE X.K B' w) → LB (X.tr pn xe) B' body (tb w)) (hk : Cls3 X (h₀ :: hds) cl) : LS X B (.Try body (h₀ :: hds) [] [] pos) (sTryC X.K cl tb) := by
  have base := ps_try_cl (pos := pos) (tb := fun W D σ H => ∃ Fz tv τ G D3 w, (∀ p ∈ B, p ∈ tv) ∧ Rel X.K tv τ G Fz σ H ∧ tb w D3 τ G ∧ SubE X.K tv D3 D ∧ ∀ cls d σ' H', wE X.K tv w cls d σ' H' → W cls d σ' H') hs hf hN
    (fun W pn xe tk _ => ⟨fun pins s σ H D I ⟨Fz, tv, τ, G, D3, w, hB, r, ht, k, hw⟩ => (hb w tv pn xe hB (tk.imp hw)).run pins s σ H D I ⟨Fz, tv, τ, G, D3, fun p hp => hp, r, ht, k⟩⟩) hk.low
  refine base.imp fun D σ H ⟨Fz, tv, τ, G, D3, hB, r, ht, k⟩ => ⟨Fz, tv, τ, G, D3, _, hB, r, ht, k, fun cls d σ' H' ⟨C, Fz', τ', G', ec, r', w⟩ => ?_⟩
  subst ec
  exact wTry_low k r' w
/-- e.f, e the handled exception at a, of the class C', its dict at d -/
def lXf (a C' : Addr) (d : Option Addr) (C : Addr) (f : Str) (te : TE3) : TE3 := fun τ G Q => te τ G fun x G1 => x = .ref a ∧ C' = C ∧ ∃ (dd : Addr) (fs : List (Str × D)) (y : D), d = some dd ∧ G1 dd = some (.xd fs) ∧ fs.lookup f = some y ∧ Q y G1
theorem rep_fl {K : PySem.W.Frag} {Fz : Addr → Prop} {H : Hp} {y : D} {v : V} (e : flD y = some v) : Rep K Fz H v y := by
  cases y with
  | non => cases e; exact .non
  | bl b => cases e; exact .bl b
  | int i => cases e; exact .int i
  | str x => cases e; exact .str x
  | _ => cases e
theorem le_xf {a C C' : Addr} {oe : Obj} {d : Option Addr} {pn : List (Addr × Obj)} {e : Expr} {te : TE3} {pos : Pos} {f : Str} (T : XfC X.K C) (hno : PySem.W.findIn X.K (.ref C) f = some none) (hz : L2N.Zn (.ref C') d oe) (hf : ∃ vs, oe.data = .fields vs)
    (he : LE (X.suite a ((a, oe) :: pn)) B e te) (hb : attributeBase e f X.env (eval e X.env) = eval e X.env := by rfl) : LE (X.suite a ((a, oe) :: pn)) B (.Attribute e f pos) (lXf a C' d C f te) :=
  (pe_xf T hno (show Zc (.ref C') d oe from ⟨hz.1, hz.2.1⟩) hf he hb).imp fun σ H Q ⟨Fz, tv, τ, G, Q3, hB, r, ht, k⟩ => emb.mk hB r ht fun v H1 Fz1 x G1 r1 ⟨ex, ec, dd, fs, y, ed, eg, el, q⟩ => by
    subst ex
    obtain ⟨vs, hd, rs⟩ := (r1.hr.go dd _ eg).2
    obtain ⟨u, eu, ru⟩ := (rs.lookup f).1 y el
    exact ⟨r1.h1.inv_ref, by rw [ec], dd, vs, u, ed, hd, eu, k _ _ (.mk r1.tl ru q)⟩
end
end L3
end

section
set_option Elab.async false
set_option linter.all false
set_option maxRecDepth 100000
set_option maxHeartbeats 4000000
/-! L3lb: f(lambda: e), by data. -/
namespace L3
open PySem PySem.Spec PyProof.Rows L2 LamX
def TabsG (T : List (Addr × Str)) (G : Gp) : Prop := ∀ p ∈ T, ∃ ps : Array Value, G p.1 = some (.raw (.tbl ps)) ∧ TriplesOk ps.toList ∧ ∀ (pos : Pos) (cv : Value), codeAmong pos ps.toList = some cv → ∃ c, cv = .ref c ∧ G c = some (.raw (CodeO c p.2))
/-- all but tables of code objects stay -/
def ExtG (G G' : Gp) : Prop := ∀ b o, G b = some o → (∀ ps, o ≠ .raw (.tbl ps)) → G' b = some o
theorem ExtG.refl (G : Gp) : ExtG G G := fun _ _ h _ => h
def plainO : HO → Bool
  | .lst _ | .tup _ | .dK _ | .ins _ _ _ | .frz _ _ => true
  | _ => false
theorem Rep.extM {K : PySem.W.Frag} {Fz Fz' : Addr → Prop} {H H' : Hp} (e : ∀ a o, Fz a → H a = some o → plainO o = true → Fz' a ∧ H' a = some o) {v : V} {d : D} (r : Rep K Fz H v d) : Rep K Fz' H' v d := by
  induction r with
  | non => exact .non
  | bl b => exact .bl b
  | int i => exact .int i
  | str x => exact .str x
  | ty n => exact .ty n
  | ref a => exact .ref a
  | lst a vs ds h hl hi ih => exact .lst a vs ds (e _ _ h.1 h.2 rfl) hl ih
  | tup a vs ds h hl hi ih => exact .tup a vs ds (h.imp (fun h => e _ _ h.1 h.2 rfl) id) hl ih
  | dic a kvs ds h hk hi ih => exact .dic a kvs ds (e _ _ h.1 h.2 rfl) hk ih
  | ins a C dx fs ds h hk hi ih => exact .ins a C dx fs ds (e _ _ h.1 h.2 rfl) hk ih
  | scr a ns h => exact .scr a ns (h.imp (fun ⟨o, h⟩ => ⟨o, e _ _ h.1 h.2 rfl⟩) id)
theorem TabsG.low {K : PySem.W.Frag} {Fz : Addr → Prop} {H : Hp} {G : Gp} {T : List (Addr × Str)} (h : HRel K Fz H G) (t : TabsG T G) : Tabs T H := fun p hp => by
  obtain ⟨ps, e1, e2, e3⟩ := t p hp
  refine ⟨ps, (h.go _ _ e1).2, e2, fun pos cv hc => ?_⟩
  obtain ⟨c, e4, e5⟩ := e3 pos cv hc
  exact ⟨c, e4, (h.go _ _ e5).2⟩
open Classical in
/-- the things behind the making of a lambda -/
noncomputable def moreG (H1 : Hp) (G : Gp) : Gp := fun a => match G a with
  | some (.raw (.tbl _)) => (H1 a).map .raw
  | some o => some o
  | none => if ∃ q, H1 a = some (CodeO a q) then (H1 a).map .raw else none
theorem plain_code {a c : Addr} {q : Str} : plainO (CodeO c q) = false := rfl
theorem plain_ne {o : HO} (h : plainO o = true) : ∀ ps, o ≠ .tbl ps := fun ps e => by subst e; cases h
def FzM (Fz : Addr → Prop) (H1 : Hp) : Addr → Prop := fun a => Fz a ∧ ∃ o, H1 a = some o ∧ plainO o = true
section
variable {K : PySem.W.Frag} {Fz : Addr → Prop} {H H1 : Hp} {G : Gp} {T : List (Addr × Str)}
theorem ext_fz (eN : ExtN H H1) : ∀ a o, Fz a → H a = some o → plainO o = true → FzM Fz H1 a ∧ H1 a = some o := fun a o f e p =>
  have e1 := eN a o e (plain_ne p)
  ⟨⟨f, o, e1, p⟩, e1⟩
theorem more_old {a : Addr} {o : GO} (e : G a = some o) (n : ∀ ps, o ≠ .raw (.tbl ps)) : moreG H1 G a = some o := by
  unfold moreG
  rw [e]
  split
  · rename_i ps z; exact absurd (Option.some.inj z) (n ps)
  · rename_i o' _ z; exact z.symm
  · rename_i z; cases z
theorem HRel.more (h : HRel K Fz H G) (eN : ExtN H H1) : HRel K (FzM Fz H1) H1 (moreG H1 G) := by
  refine ⟨fun a o e => ?_, fun a f => ⟨_, f.2.choose_spec.1⟩⟩
  have old : ∀ {u : GO}, G a = some u → ¬ FzM Fz H1 a := fun z f => (h.go _ _ z).1 f.1
  unfold moreG at e
  split at e
  · rename_i ps z
    obtain ⟨o', e1, rfl⟩ := Option.map_eq_some_iff.mp e
    exact ⟨old z, e1⟩
  · rename_i o' hn z
    cases e
    refine ⟨old z, ?_⟩
    have r := (h.go _ _ z).2
    cases o with
    | lst ds => obtain ⟨vs, h1, h2⟩ := r; exact ⟨vs, eN _ _ h1 (fun ps z => by cases z), h2.len, fun i v d x y => (h2.at_ i v d x y).extM (ext_fz eN)⟩
    | dic ds => obtain ⟨vs, h1, h2⟩ := r; exact ⟨vs, eN _ _ h1 (fun ps z => by cases z), h2.keys, fun i v d x y => (h2.at_ i v d x y).extM (ext_fz eN)⟩
    | ins C ds => obtain ⟨dx, vs, h1, h2⟩ := r; exact ⟨dx, vs, eN _ _ h1 (fun ps z => by cases z), h2.keys, fun i v d x y => (h2.at_ i v d x y).extM (ext_fz eN)⟩
    | xd ds => obtain ⟨vs, h1, h2⟩ := r; exact ⟨vs, eN _ _ h1 (fun ps z => by cases z), h2.keys, fun i v d x y => (h2.at_ i v d x y).extM (ext_fz eN)⟩
    | raw o => exact eN _ _ r fun ps z => hn ps (by rw [z])
  · rename_i z
    split at e
    · rename_i hq
      obtain ⟨q, hq⟩ := hq
      rw [hq] at e
      cases e
      refine ⟨fun f => ?_, hq⟩
      obtain ⟨_, o', e1, e2⟩ := f
      rw [hq] at e1
      cases e1
      cases e2
    · cases e
theorem more_ext : ExtG G (moreG H1 G) := fun b o e n => more_old e n
theorem code_more (h : HRel K Fz H G) (eN : ExtN H H1) {c : Addr} {q : Str} (e : H1 c = some (CodeO c q)) : moreG H1 G c = some (.raw (CodeO c q)) := by
  unfold moreG
  split
  · rw [e]; rfl
  · rename_i o hn z
    have r := (h.go _ _ z).2
    cases o with
    | lst ds => obtain ⟨vs, h1, _⟩ := r; have := eN _ _ h1 (fun ps z => by cases z); rw [e] at this; cases this
    | dic ds => obtain ⟨vs, h1, _⟩ := r; have := eN _ _ h1 (fun ps z => by cases z); rw [e] at this; cases this
    | ins C ds => obtain ⟨dx, vs, h1, _⟩ := r; have := eN _ _ h1 (fun ps z => by cases z); rw [e] at this; cases this
    | xd ds => obtain ⟨vs, h1, _⟩ := r; have := eN _ _ h1 (fun ps z => by cases z); rw [e] at this; cases this
    | raw o =>
      have := eN _ _ r fun ps z => hn ps (by rw [z])
      rw [e] at this
      cases this
      rfl
  · rw [if_pos ⟨q, e⟩, e]; rfl
theorem more_tabs (h : HRel K Fz H G) (eN : ExtN H H1) (tg : TabsG T G) (t1 : Tabs T H1) : TabsG T (moreG H1 G) := fun p hp => by
  obtain ⟨ps, e1, e2, e3⟩ := t1 p hp
  obtain ⟨ps0, e0, _⟩ := tg p hp
  refine ⟨ps, ?_, e2, fun pos cv hc => ?_⟩
  · unfold moreG; rw [e0]; dsimp only; rw [e1]; rfl
  · obtain ⟨c, e4, e5⟩ := e3 pos cv hc
    exact ⟨c, e4, code_more h eN e5⟩
end
/-- a lambda's body, by what is wished of what it raises -/
abbrev TX3 := W0 → TE3
def embX (K : PySem.W.Frag) (t : TX3) : XK → TE := fun E σ H Q => ∃ Fz tv τ G Q3 w, Rel K tv τ G Fz σ H ∧ t w τ G Q3 ∧ (∀ v H', PostE K tv τ σ Q3 v H' → Q v H') ∧
  ∀ C d H' Fz' G', HRel K Fz' H' G' → (∀ p ∈ slotsL σ τ ++ tv, Rep K Fz' H' p.1 p.2) → w C d G' → E (.ref C) d H'
abbrev Deed := W0 → Gp → K3 → Prop
/-- deed(), in the def that got it in its first slot -/
def lDeed (f c' : Addr) (q : Str) (deed : Deed) (w : WE3) : TE3 := fun τ G Q => τ[0]? = some (some (.ref f)) ∧ G c' = some (.raw (CodeO c' q)) ∧ deed (fun C d G' => w C d τ G') G Q
/-- what such a def makes of a deed -/
def TTL (K : PySem.W.Frag) (Ng : List Str) (q : Str) (tt : Addr → Addr → Deed → TS3) : (XK → Hp → VK → Prop) → Hp → VK → Prop := fun tl H Q => ∃ (Fz : Addr → Prop) (tv : BT) (G : Gp) (deed : Deed) (Q3 : K3), HRel K Fz H G ∧ (∀ p ∈ tv, Rep K Fz H p.1 p.2) ∧
  (∀ c', H c' = some (CodeO c' q) → G c' = some (.raw (CodeO c' q))) ∧ (∀ f c', G c' = some (.raw (CodeO c' q)) → tt f c' deed { nx := fun _ G' => Q3 .non G', rt := Q3 } (start3 Ng [.ref f]) G) ∧
  (∀ HZ FzZ GZ (w : W0) (E : XK) (Qz : VK) (Q3z : K3) (tx : BT), HRel K FzZ HZ GZ → (∀ p ∈ tv, p ∈ tx) → (∀ p ∈ tx, Rep K FzZ HZ p.1 p.2) → deed w GZ Q3z →
    (∀ v H' Fz' d G', HRel K Fz' H' G' → (∀ p ∈ tx, Rep K Fz' H' p.1 p.2) → Rep K Fz' H' v d → Q3z d G' → Qz v H') → (∀ C d H' Fz' G', HRel K Fz' H' G' → (∀ p ∈ tx, Rep K Fz' H' p.1 p.2) → w C d G' → E (.ref C) d H') → tl E HZ Qz) ∧
  ∀ v H' Fz' d G', HRel K Fz' H' G' → (∀ p ∈ tv, Rep K Fz' H' p.1 p.2) → Rep K Fz' H' v d → Q3 d G' → Q v H'
theorem gives3 {X : Cx} {Ng : List Str} {x a q : Str} {sg : Scope} {g : Addr} {cdg : Value} {bg : List Stmt} {tt : Addr → Addr → Deed → TS3}
    (walk : ∀ (f c' : Addr) (s : Shared) (H : Hp) (deed : Deed) (B : BT), Room 3 (X.A.deeper (envOfC x sg s.heap.objs.size g cdg)) →
      (∀ (w : WE3) (B' : BT) (pn : List (Addr × Obj)) (xe : Value → Shared → Prop) (p1 p2 : Pos), (∀ p ∈ B, p ∈ B') → L2N.Takes ((cxOf CX0 X.prog X.w X.K X.mg X.base Ng x sg g cdg X.A X.stack s H E0).tr pn xe) (wE X.K B' w) →
        LE ((cxOf CX0 X.prog X.w X.K X.mg X.base Ng x sg g cdg X.A X.stack s H E0).tr pn xe) B' (.Call (.Name a p1) [] [] p2) (lDeed f c' q deed w)) →
      LB (cxOf CX0 X.prog X.w X.K X.mg X.base Ng x sg g cdg X.A X.stack s H E0).nox B bg (tt f c' deed)) : GivesN X Ng x sg g cdg bg a q (TTL X.K Ng q tt) := by
  intro f c' s H Q tl room act known ⟨Fz, tv, G, deed, Q3, hr, tm, hc, ht, link, post⟩
  refine ⟨_, walk f c' s H deed tv room (fun w B' pn xe p1 p2 hB tk => ?_), Fz, tv, start3 Ng [.ref f], G, { nx := fun _ G' => Q3 .non G', rt := Q3 }, fun p hp => hp, start_rel Ng hr tm (Reps.one (.ref f)), ht f c' (hc c' known), ?_⟩
  · refine (act _ pn xe p1 p2 tk).imp fun σ H' Qz ⟨Fz2, tvZ, τ, G2, Q3z, hB2, r, ⟨h0, hcG, hd⟩, k⟩ => ?_
    obtain ⟨v, hv, rv⟩ := r.slot 0 _ h0
    rw [rv.inv_ref] at hv
    refine ⟨hv, (r.hr.go _ _ hcG).2, ?_⟩
    refine link H' Fz2 G2 _ _ Qz Q3z (slotsL σ τ ++ tvZ) r.hr (fun p hp => List.mem_append_right _ (hB2 p (hB p hp))) (fun p hp => (List.mem_append.mp hp).elim (r.slots_rep p) (r.tmp p)) hd (fun v H2 Fz' d G' hr' tm' rv' q => ?_) fun C d H2 Fz' G' hr' tm' hw => ?_
    · exact k v H2 (.mk (r.again hr' (fun p hp => tm' p (List.mem_append_left _ hp)) fun p hp => tm' p (List.mem_append_right _ hp)) rv' q)
    · exact ⟨C, Fz', τ, G', rfl, (r.again hr' (fun p hp => tm' p (List.mem_append_left _ hp)) fun p hp => tm' p (List.mem_append_right _ hp)).sub hB2, hw⟩
  · exact ⟨fun σ' τ' G' Fz' H' r q => post .non H' Fz' .non G' r.hr (fun p hp => r.tmp p hp) .non q, fun d G' v H' Fz' σ' τ' r q => post v H' Fz' d G' r.hr (fun p hp => r.tmp p (List.mem_cons_of_mem _ hp)) r.h1 q,
      fun _ _ _ _ _ _ q => q.elim, fun _ _ _ _ _ _ q => q.elim⟩
/-- x(lambda: body): T the tables, q the lambda's name -/
def lLam (T : List (Addr × Str)) (q : Str) (Ng : List Str) (tt : Addr → Addr → Deed → TS3) (tb : TX3) : TE3 := fun τ G Q => TabsG T G ∧ ∀ G1, ExtG G G1 → TabsG T G1 → ∀ f c', G1 c' = some (.raw (CodeO c' q)) →
  tt f c' (fun w G' Q' => tb w τ G' Q') { nx := fun _ G' => Q .non G', rt := Q } (start3 Ng [.ref f]) G1
theorem le_lam {X : Cx} {B : BT} {T : List (Addr × Str)} {tt : Addr → Addr → Deed → TS3} {x a : Str} {g c P : Addr} {k : Nat} {pg : Arguments} {bg : List Stmt} {sg : Scope} {dV kV doc pm cdv ct oc : Value} {an od : Option Addr} {osl : Array (Option Value)} {Ng : List Str}
    {params : Arguments} {body : Expr} {scope : Scope} {tb : TX3} {p lpos pos : Pos} (hg : Gl X x) (hm : X.mg x = some (.ref g)) (hk : PySem.W.keepIn X.K (.ref g) = true)
    (lk : X.K.lookup g = some ⟨oc, od, .func (PySem.W.fnOf x x pg bg sg dV kV doc pm an cdv ct), osl⟩) (hcg : PySem.W.codeIn X.K cdv x = true) (hb : L2.Binds X.K (PySem.W.fnOf x x pg bg sg dV kV doc pm an cdv ct) [a] []) (Sg : FnScope Ng [a] sg) (hNg : Ng[0]? = some a) (hva : Vis sg a)
    (hG : GivesN X Ng x sg g cdv bg a (X.env.qual ++ "<lambda>") (TTL X.K Ng (X.env.qual ++ "<lambda>") tt))
    (TB : TabB X.base X.mg c P) (hcode : X.env.code = .ref c) (hmT : (P, X.env.qual ++ "<lambda>") ∈ T) (hu : ∀ p ∈ T, p.1 = P → p.2 = X.env.qual ++ "<lambda>") (room : Room (k + 4) X.A) (L : LamS X.env.scope scope) (noD : defaultsOf params X.env = ([], []))
    (noA : ∀ (q : Str) (cl : List (Str × Addr)) (pm cv ctv : Value), bindArgs (PySem.W.kla_fn "<lambda>" q params body scope cl pm cv ctv) ⟨[], []⟩ = pure [])
    (hbody : ∀ (A : Around) (outer : List Env) (s : Shared) (H : Hp) (E : XK) (f c' : Addr), Room k (A.deeper (lamEnv X scope s.heap.objs.size f c')) → PE (lamN X A outer s H E scope f c') body (embX X.K tb E))
    (hdb : (x == ("__debug__" : Str)) = false := by decide) (hd : (a == ("__debug__" : Str)) = false := by decide) (hcd : (a == ("__classdict__" : Str)) = false := by decide) :
    LE X B (.Call (.Name x p) [.Lambda params body scope lpos] [] pos) (lLam T (X.env.qual ++ "<lambda>") Ng tt tb) := by
  refine (pe_lamN hg hm hk lk hcg hb Sg hNg hva hG TB hcode hmT hu room L noD noA hbody hdb hd hcd).imp fun σ H Q ⟨Fz, tv, τ, G, Q3, hB, r, ⟨tg, h⟩, kk⟩ => ?_
  refine ⟨tg.low r.hr, fun H1 eN t1 => ?_⟩
  have r1 : Rel X.K tv τ (moreG H1 G) (FzM Fz H1) σ H1 := ⟨r.len, fun i d e => let ⟨v, hv, rv⟩ := r.slot i d e; ⟨v, hv, rv.extM (ext_fz eN)⟩, fun p hp => (r.tmp p hp).extM (ext_fz eN), r.hr.more eN⟩
  refine ⟨FzM Fz H1, slotsL σ τ ++ tv, moreG H1 G, fun w G' Q' => tb w τ G' Q', Q3, r1.hr, fun p hp => (List.mem_append.mp hp).elim (r1.slots_rep p) (r1.tmp p), fun c' e => code_more r.hr eN e, fun f c' e => h _ more_ext (more_tabs r.hr eN tg t1) f c' e, ?_, ?_⟩
  · intro HZ FzZ GZ w E Qz Q3z tx hrZ sub tmx hd ret exc
    have rZ : Rel X.K tx τ GZ FzZ σ HZ := by
      have r2 := r1.again hrZ (fun p hp => tmx p (sub p (List.mem_append_left _ hp))) fun p hp => tmx p (sub p (List.mem_append_right _ hp))
      exact ⟨r2.len, r2.slot, tmx, r2.hr⟩
    refine ⟨FzZ, tx, τ, GZ, Q3z, w, rZ, hd, fun v H' ⟨Fz', d, G', r', q⟩ => ret v H' Fz' d G' r'.hr (fun p hp => r'.tl.tmp p hp) r'.h1 q, fun C d H' Fz' G' hr' tm' hw => exc C d H' Fz' G' hr' (fun p hp => tm' p (List.mem_append_right _ hp)) hw⟩
  · intro v H' Fz' d G' hr' tm' rv q
    exact kk v H' (.mk (r1.again hr' (fun p hp => tm' p (List.mem_append_left _ hp)) fun p hp => tm' p (List.mem_append_right _ hp)) rv q)
end L3
end

section
set_option Elab.async false
set_option linter.all false
set_option maxRecDepth 100000
set_option maxHeartbeats 4000000
/-! L3lc: the lambda's body: a call of a def that returns or raises. -/
namespace L3
open PySem PySem.Spec PyProof.Rows L2 LamX
/-- such a def, called by its name; ddv: the defaults that fill up -/
structure CalE (P : Program) (w : World) (K : PySem.W.Frag) (mg : Str → Option Value) (base : Heap) (x : Str) (k : Nat) (sp : SpE) (ddv : List D) : Prop where
  ex : ∃ (f : Addr) (fd : FuncData) (ps : List Str) (dvs : List V) (ds : List Value), mg x = some (.ref f) ∧ PySem.W.keepIn K (.ref f) = true ∧ FnOk P w K mg base (L2N.CX P w) k f fd ps (lowE K sp) ∧ Binds K fd ps ds ∧ Vals dvs ds ∧ ∀ Fz H, Reps K Fz H dvs ddv
/-- .. with its last parameter by its name kn -/
structure CalEK (P : Program) (w : World) (K : PySem.W.Frag) (mg : Str → Option Value) (base : Heap) (x kn : Str) (k : Nat) (sp : SpE) : Prop where
  ex : ∃ (f : Addr) (fd : FuncData) (ps : List Str), mg x = some (.ref f) ∧ PySem.W.keepIn K (.ref f) = true ∧ FnOk P w K mg base (L2N.CX P w) k f fd ps (lowE K sp) ∧ KBn K fd ps 1 [kn] (fun us ws => us ++ ws) (fun vs zs => vs ++ zs)
section
variable {X : Cx} {A : Around} {outer : List Env} {s : Shared} {H : Hp} {E : XK} {scope : Scope} {f0 c' : Addr} {x kn : Str} {k : Nat} {sp : SpE} {ddv : List D} {p pos : Pos} {e e2 : Expr} {es : List Expr} {t : TA3}
theorem pe_lamE (C : CalE X.prog X.w X.K X.mg X.base x k sp ddv) (hr : Room k (lamN X A outer s H E scope f0 c').A) (ha : LA (lamN X A outer s H E scope f0 c') [] (e :: es) t) (hg : Gl (lamN X A outer s H E scope f0 c') x := by rfl) (hdb : (x == ("__debug__" : Str)) = false := by decide)
    (he : starEach (e :: es) (lamN X A outer s H E scope f0 c').env = (false, eval e (lamN X A outer s H E scope f0 c').env) :: starEach es (lamN X A outer s H E scope f0 c').env := by rfl) (hpl : (backTo pos (starEach es (lamN X A outer s H E scope f0 c').env)).any (·.1) = false := by rfl) :
    PE (lamN X A outer s H E scope f0 c') (.Call (.Name x p) (e :: es) [] pos) (embX X.K (fun w τ G Q => t τ G fun ds G1 => sp (ds ++ ddv) G1 Q w) E) := by
  obtain ⟨f, fd, ps, dvs, ds, hm, hk, F, hb, hd, hv⟩ := C.ex
  refine (pe_call (X := lamN X A outer s H E scope f0 c') F hr hg hm hk hb hd (fun pins σ H s e s' I c => L2N.passes_call takes_lamN (fun _ _ _ _ z => z) pins σ H s e s' I c) ha hdb he hpl).imp fun σ H Q ⟨Fz, tv, τ, G, Q3, w, r, ht, kq, kw⟩ => ?_
  exact embA.mk (B := []) (by simp) r ht fun vs H1 Fz1 ds G1 rs r1 h1 => ⟨Fz1, slotsL σ τ ++ tv, ds ++ ddv, G1, Q3, w, r1.hr, fun p hp => (List.mem_append.mp hp).elim (r1.slots_rep p) (r1.tmp p), rs.append (hv _ _), h1,
    fun v H' Fz' d G' hr' tm' rv q => kq v H' ⟨Fz', d, G', (r1.again hr' (fun p hp => tm' p (List.mem_append_left _ hp)) fun p hp => tm' p (List.mem_append_right _ hp)).push rv, q⟩, fun C d H' Fz' G' hr' tm' hw => kw C d H' Fz' G' hr' tm' hw⟩
theorem pe_lamEK {te te2 : TE3} {kp : Pos} (C : CalEK X.prog X.w X.K X.mg X.base x kn k sp) (hr : Room k (lamN X A outer s H E scope f0 c').A) (h1 : LE (lamN X A outer s H E scope f0 c') [] e te) (h2 : LE (lamN X A outer s H E scope f0 c') [] e2 te2) (hg : Gl (lamN X A outer s H E scope f0 c') x := by rfl)
    (hdb : (x == ("__debug__" : Str)) = false := by decide)
    (he : starEach [e] (lamN X A outer s H E scope f0 c').env = (false, eval e (lamN X A outer s H E scope f0 c').env) :: starEach [] (lamN X A outer s H E scope f0 c').env := by rfl)
    (hall : (backToKw pos (keywordEach [⟨some kn, e2, kp⟩] (lamN X A outer s H E scope f0 c').env)).all (·.1.isSome) = true := by rfl) (hks : (backToKw pos (keywordEach [⟨some kn, e2, kp⟩] (lamN X A outer s H E scope f0 c').env)).filterMap (·.1) = [kn] := by rfl)
    (hpl : ((backTo pos (starEach [e] (lamN X A outer s H E scope f0 c').env)).any (·.1) || (backToKw pos (keywordEach [⟨some kn, e2, kp⟩] (lamN X A outer s H E scope f0 c').env)).any (·.1.isNone)) = false := by rfl) :
    PE (lamN X A outer s H E scope f0 c') (.Call (.Name x p) [e] [⟨some kn, e2, kp⟩] pos) (embX X.K (fun w τ G Q => te τ G fun y1 G1 => te2 τ G1 fun y2 G2 => sp [y1, y2] G2 Q w) E) := by
  obtain ⟨f, fd, ps, hm, hk, F, hb⟩ := C.ex
  refine (pe_callN (X := lamN X A outer s H E scope f0 c') F hr hg hm hk hb (fun pins σ H s e' s' I c => L2N.passes_call takes_lamN (fun _ _ _ _ z => z) pins σ H s e' s' I c) (pa_cons h1 pa_nil he) (pk_cons h2 pk_nil) hall hks hdb he hpl).imp fun σ H Q ⟨Fz, tv, τ, G, Q3, w, r, ht, kq, kw⟩ => ?_
  exact emb.mk (B := []) (by simp) r ht fun v1 H1 Fz1 y1 G1 r1 h1 => emb.mk (B := []) (by simp) r1 h1 fun v2 H2 Fz2 y2 G2 r2 h2 => ⟨rfl, rfl, Fz2, slotsL σ τ ++ tv, [y1, y2], G2, Q3, w, r2.hr, fun p hp => (List.mem_append.mp hp).elim (r2.slots_rep p) (r2.tl2.tmp p),
    .cons r2.h2 (.one r2.h1), h2, fun v H' Fz' d G' hr' tm' rv q => kq v H' ⟨Fz', d, G', (r2.tl2.again hr' (fun p hp => tm' p (List.mem_append_left _ hp)) fun p hp => tm' p (List.mem_append_right _ hp)).push rv, q⟩, fun C d H' Fz' G' hr' tm' hw => kw C d H' Fz' G' hr' tm' hw⟩
end
theorem kbn1 {K : PySem.W.Frag} {x qual kn : Str} {params : Arguments} {body : List Stmt} {scope : Scope} {kws : List (Str × V)} {f : Addr} {fd : FuncData} {ps : List Str} (F : FunD K x qual params body scope [] kws f fd)
    (h : ∀ (kV doc pm : Value) (an : Option Addr) (cdv ct u w : Value), bindArgs (PySem.W.fnOf x qual params body scope .none kV doc pm an cdv ct) ⟨[u], [(kn, w)]⟩ = pure (ps.zip [u, w])) : KBn K fd ps 1 [kn] (fun us ws => us ++ ws) (fun vs zs => vs ++ zs) := by
  obtain ⟨oc, od, dV, kV, doc, pm, an, cdv, ct, osl, rfl, lk, hcd, hD, hK⟩ := F.ex
  rcases hD with ⟨_, rfl⟩ | ⟨e, _⟩
  · refine ⟨fun s us ws _ l1 l2 => ?_, fun r1 r2 => r1.append r2⟩
    match us, ws, l1, l2 with
    | [u], [w], _, _ => exact .of_eq (h kV doc pm an cdv ct u w)
  · exact absurd rfl e
end L3
end

section
set_option Elab.async false
set_option linter.all false
set_option maxRecDepth 100000
set_option maxHeartbeats 4000000
/-! L3tx: more of texts: count, zfill, rpartition, upper, ord, str(n), int(t, 16), text * n, list * n, op=, a star's list that changes, pop(). -/
namespace L3
open PySem PySem.Spec PyProof.Rows L2 PySem.Builtin.Str

/-! ### methods of texts -/
section
variable {X : Cx} {B : BT} {o e : Expr} {to te : TE3} {pos apos : Pos}
def lTm1 (r : Str → D → K3 → Gp → Prop) (to te : TE3) : TE3 := fun τ G Q => to τ G fun x G1 => match x with
  | .str a => te τ G1 fun y G2 => r a y Q G2
  | _ => False
def rCnt1 : Str → D → K3 → Gp → Prop := fun a y Q G => match y with
  | .str b => Q (.int (Txt.count a b)) G
  | _ => False
def rZf1 : Str → D → K3 → Gp → Prop := fun a y Q G => match y with
  | .int i => PadOk i = true ∧ Q (.str (Txt.zfill a i)) G
  | _ => False
def rRp1 : Str → D → K3 → Gp → Prop := fun a y Q G => match y with
  | .str b => (b.length == 0) = false ∧ a.length ≤ sizeLine ∧ Q (.tup [.str (Txt.rpartition a b).1, .str (Txt.rpartition a b).2.1, .str (Txt.rpartition a b).2.2]) G
  | _ => False
theorem le_cntS (ho : LE X B o to) (he : LE X B e te) (hs : starEach [e] X.env = [(false, eval e X.env)] := by rfl) (hbase : attributeBase o "count" X.env (eval o X.env) = eval o X.env := by rfl) (hline : (apos.endLine == pos.line) = true := by rfl) : LE X B (.Call (.Attribute o "count" apos) [e] [] pos) (lTm1 rCnt1 to te) :=
  (pe_m1 F.slot_str_count F.type_str_count mt_count ho he hs hbase hline).imp fun σ H Q ⟨Fz, tv, τ, G, Q3, hB, r, ht, k⟩ => emb.mk hB r ht fun v H1 Fz1 x G1 r1 h1 => by
    cases x with
    | str a =>
      refine ⟨⟨a, r1.h1.inv_str⟩, emb.mk (subB hB) r1 h1 fun u H2 Fz2 y G2 r2 h2 => ?_⟩
      cases y with
      | str b => exact ⟨a, b, r2.h2.inv_str, by rw [r2.h1.inv_str], k _ _ (.mk r2.tl2 (.int _) h2)⟩
      | _ => exact h2.elim
    | _ => exact h1.elim
theorem le_zfill (ho : LE X B o to) (he : LE X B e te) (hs : starEach [e] X.env = [(false, eval e X.env)] := by rfl) (hbase : attributeBase o "zfill" X.env (eval o X.env) = eval o X.env := by rfl) (hline : (apos.endLine == pos.line) = true := by rfl) : LE X B (.Call (.Attribute o "zfill" apos) [e] [] pos) (lTm1 rZf1 to te) :=
  (pe_m1 F.slot_str_zfill F.type_str_zfill mt_zfill ho he hs hbase hline).imp fun σ H Q ⟨Fz, tv, τ, G, Q3, hB, r, ht, k⟩ => emb.mk hB r ht fun v H1 Fz1 x G1 r1 h1 => by
    cases x with
    | str a =>
      refine ⟨⟨a, r1.h1.inv_str⟩, emb.mk (subB hB) r1 h1 fun u H2 Fz2 y G2 r2 h2 => ?_⟩
      cases y with
      | int i => exact ⟨a, i, r2.h2.inv_str, by rw [r2.h1.inv_int], h2.1, k _ _ (.mk r2.tl2 (.str _) h2.2)⟩
      | _ => exact h2.elim
    | _ => exact h1.elim
theorem mt_rpartition : MtR X "str.rpartition" (fun x xs H Q => ∃ a b, x = .str a ∧ xs = [.str b] ∧ (b.length == 0) = false ∧ a.length ≤ sizeLine ∧
    ∀ p, H p = none → Q (.ref p) (upd H p (.tup [.str (Txt.rpartition a b).1, .str (Txt.rpartition a b).2.1, .str (Txt.rpartition a b).2.2]))) := by
  intro pins s σ H x xs v us Q I rx rs h
  obtain ⟨a, b, rfl, rfl, hb, hz, h⟩ := h
  obtain ⟨t, rfl⟩ := rx
  cases rs with
  | cons r1 rs =>
    cases rs
    obtain ⟨u, rfl⟩ := r1
    refine call_meets F.slot_str_rpartition (typeIs_str _ _ _) F.entry_str_rpartition (F.args_str_rpartition_2 _ _) (meets_str_rpartition a b t u hb hz) ?_
    unfold Txt.rpartition at h
    revert h
    cases lastOccurrence a b 0 a.length with
    | none => intro h; exact laid_parts I h
    | some i => intro h; exact laid_parts I h
theorem le_rpart (ho : LE X B o to) (he : LE X B e te) (hs : starEach [e] X.env = [(false, eval e X.env)] := by rfl) (hbase : attributeBase o "rpartition" X.env (eval o X.env) = eval o X.env := by rfl) (hline : (apos.endLine == pos.line) = true := by rfl) : LE X B (.Call (.Attribute o "rpartition" apos) [e] [] pos) (lTm1 rRp1 to te) :=
  (pe_m1 F.slot_str_rpartition F.type_str_rpartition mt_rpartition ho he hs hbase hline).imp fun σ H Q ⟨Fz, tv, τ, G, Q3, hB, r, ht, k⟩ => emb.mk hB r ht fun v H1 Fz1 x G1 r1 h1 => by
    cases x with
    | str a =>
      refine ⟨⟨a, r1.h1.inv_str⟩, emb.mk (subB hB) r1 h1 fun u H2 Fz2 y G2 r2 h2 => ?_⟩
      cases y with
      | str b => exact ⟨a, b, r2.h2.inv_str, by rw [r2.h1.inv_str], h2.1, h2.2.1, fun p hp => k _ _ (.mk (r2.tl2.new hp) (Rep.mk_tup Rel.stl (.cons (.str _) (.cons (.str _) (.one (.str _))))) h2.2.2)⟩
      | _ => exact h2.elim
    | _ => exact h1.elim
def lUp (to : TE3) : TE3 := fun τ G Q => to τ G fun x G1 => match x with
  | .str a => a.length ≤ 5592405 ∧ Q (.str (Txt.upper a)) G1
  | _ => False
theorem le_upper (ho : LE X B o to) (hbase : attributeBase o "upper" X.env (eval o X.env) = eval o X.env := by rfl) (hline : (apos.endLine == pos.line) = true := by rfl) : LE X B (.Call (.Attribute o "upper" apos) [] [] pos) (lUp to) :=
  (pe_upper ho hbase hline).imp fun σ H Q ⟨Fz, tv, τ, G, Q3, hB, r, ht, k⟩ => emb.mk hB r ht fun v H1 Fz1 x G1 r1 h1 => by
    cases x with
    | str a => exact ⟨⟨a, r1.h1.inv_str⟩, a, r1.h1.inv_str, rfl, h1.1, k _ _ (.mk r1.tl (.str _) h1.2)⟩
    | _ => exact h1.elim
end

/-! ### ord, str(n), int(t, 16) -/
section
variable {K : PySem.W.Frag}
def rOrd3 : RC3 := fun ds G Q => match ds with
  | [.str x] => x.length = 1 ∧ Q (.int (x.cps.getD 0 0 : Nat)) G
  | _ => False
theorem sim_ord : SimC K (fun xs H Q => ∃ x, xs = [.str x] ∧ x.length = 1 ∧ Q (.int (x.cps.getD 0 0 : Nat)) H) rOrd3 := by
  intro Fz σ H tv τ G vs ds Q Q3 rs r h k
  match ds, h with
  | [.str x], h =>
    obtain ⟨v, rfl, rv⟩ := rs.one_inv
    exact ⟨x, by rw [rv.inv_str], h.1, k _ H (.mk r (.int _) h.2)⟩
def rStrI3 : RC3 := fun ds G Q => match ds with
  | [.int i] => i.natAbs.log2 < 1920 ∧ Q (.str (toString i)) G
  | _ => False
theorem sim_strI : SimC K (fun xs H Q => ∃ i : Int, xs = [.int i] ∧ i.natAbs.log2 < 1920 ∧ Q (.str (toString i)) H) rStrI3 := by
  intro Fz σ H tv τ G vs ds Q Q3 rs r h k
  match ds, h with
  | [.int i], h =>
    obtain ⟨v, rfl, rv⟩ := rs.one_inv
    exact ⟨i, by rw [rv.inv_int], h.1, k _ H (.mk r (.str _) h.2)⟩
def rHex3 : RC3 := fun ds G Q => match ds with
  | [.str x, .int b] => b = 16 ∧ ∃ l : List Nat, x = SX.S l ∧ l ≠ [] ∧ l.length ≤ 640 ∧ (∀ c ∈ l, Hx.IsHex c) ∧ Q (.int ((Hx.hexNum l : Nat) : Int)) G
  | _ => False
theorem sim_hex : SimC K rIntHex rHex3 := by
  intro Fz σ H tv τ G vs ds Q Q3 rs r h k
  match ds, h with
  | [.str x, .int b], h =>
    obtain ⟨v, u, rfl, rv, ru⟩ := rs.two_inv
    obtain ⟨rfl, l, rfl, h1, h2, h3, h4⟩ := h
    exact ⟨l, by rw [rv.inv_str, ru.inv_int], h1, h2, h3, k _ H (.mk r (.int _) h4)⟩
/-! ### text * n, list * n -/
theorem op_mulS {X : Cx} : OpR X (binaryOp .Mult) (fun x y H Q => ∃ (c : Nat) (n : Int), x = .str ⟨#[c]⟩ ∧ y = .int n ∧ -1000 ≤ n ∧ n ≤ 1000 ∧ Q (.str ⟨(List.replicate n.toNat c).toArray⟩) H) := by
  intro pins s σ H x y v u Q I rx ry h
  obtain ⟨c, n, rfl, rfl, h1, h2, q⟩ := h
  obtain ⟨t, rfl⟩ := rx
  obtain ⟨t', rfl⟩ := ry
  have hl : (⟨#[c]⟩ : Str).length = 1 := rfl
  refine PySem.P.mul_str (by rw [decide_eq_false (by omega), decide_eq_false (by omega)]; rfl) (fun hn _ => ?_) (fun hn _ => ?_) ?_
  · have h4 : (1 : Int) ≤ (2 ^ 63 - 1) / n := Int.le_ediv_of_mul_le (by omega) (by omega)
    rw [hl]
    omega
  · unfold PySem.Builtin.Str.tooLong
    rw [hl, decide_eq_false_iff_not]
    show ¬ 2 ^ 24 < _
    omega
  · split
    · rename_i hn
      have e : n.toNat = 0 := by omega
      rw [e] at q
      exact ⟨by decide, .str _, H, I.tok _, ⟨_, rfl⟩, q⟩
    · rename_i hn
      split
      · rename_i hn2
        have e : n.toNat = 1 := by
          rw [hl] at hn2
          simp at hn2
          omega
        rw [e] at q
        exact ⟨.str _, H, I, ⟨_, rfl⟩, q⟩
      · rename_i hn2
        have e : (List.replicate n.toNat #[c]).foldl (· ++ ·) #[] = (List.replicate n.toNat c).toArray := by
          apply Array.toList_inj.mp
          rw [PyProof.Rows.foldl_rep]
          simp
        rw [e]
        refine ⟨?_, .str _, H, I.tok _, ⟨_, rfl⟩, q⟩
        show (List.replicate n.toNat c).toArray.size ≤ 2 ^ 24
        simp
        omega
def rMulS3 : R3 := fun x y G Q => match x, y with
  | .str ⟨⟨[c]⟩⟩, .int n => -1000 ≤ n ∧ n ≤ 1000 ∧ Q (.str ⟨(List.replicate n.toNat c).toArray⟩) G
  | _, _ => False
theorem sim_mulS : Sim2 K (fun x y H Q => ∃ (c : Nat) (n : Int), x = .str ⟨#[c]⟩ ∧ y = .int n ∧ -1000 ≤ n ∧ n ≤ 1000 ∧ Q (.str ⟨(List.replicate n.toNat c).toArray⟩) H) rMulS3 := by
  intro Fz σ H tv τ G v u x y Q Q3 r h k
  unfold rMulS3 at h
  split at h
  · rename_i c n
    exact ⟨c, n, r.h2.inv_str, r.h1.inv_int, h.1, h.2.1, k _ H (.mk r.tl2 (.str _) h.2.2)⟩
  · exact h.elim
def rMulL3 : R3 := fun x y G Q => match y with
  | .int k => (match lstOf G x with
    | some ds => -(2 ^ 63) ≤ k ∧ k < 2 ^ 63 ∧ ds.length * k.toNat ≤ sizeLine ∧ Q (.lst (List.replicate k.toNat ds).flatten) G
    | none => False)
  | _ => False
theorem Reps.rep {Fz : Addr → Prop} {H : Hp} {vs : List V} {ds : List D} (r : Reps K Fz H vs ds) : ∀ n : Nat, Reps K Fz H (List.replicate n vs).flatten (List.replicate n ds).flatten
  | 0 => .nil
  | n + 1 => by
    rw [List.replicate_succ, List.replicate_succ, List.flatten_cons, List.flatten_cons]
    exact r.append (Reps.rep r n)
theorem sim_mulL : Sim2 K rRep rMulL3 := by
  intro Fz σ H tv τ G v u x y Q Q3 r h k
  cases y with
  | int n =>
    have h' : (match lstOf G x with
      | some ds => -(2 ^ 63) ≤ n ∧ n < 2 ^ 63 ∧ ds.length * n.toNat ≤ sizeLine ∧ Q3 (.lst (List.replicate n.toNat ds).flatten) G
      | none => False) := h
    cases e : lstOf G x with
    | none => rw [e] at h'; exact h'.elim
    | some ds =>
      rw [e] at h'
      obtain ⟨a, vs, rfl, h1, rs⟩ := lst_at r.hr r.h2 e
      exact ⟨a, n, vs, rfl, r.h1.inv_int, h1, h'.1, h'.2.1, by rw [rs.len]; exact h'.2.2.1, fun p hp => k _ _ (.mk (r.tl2.new hp) (Rep.mk_lst Rel.stl ((rs.rep _).ext (r.ext1 hp))) h'.2.2.2)⟩
  | _ => exact h.elim
abbrev rAddI3 : R3 := rI30 fun i j => .int (i + j)
end

/-! ### a star's list that may change; pop() -/
def gStarG (i : Nat) (t : TGs3) : TG3 := fun d τ G Q => match itemsOf G d with
  | some ds => i ≤ ds.length ∧ ∀ p, G p = none → t (ds.take i ++ [.ref p]) τ (gup G p (.lst (ds.drop i))) Q
  | none => False
def rPopE3 : Addr → List D → List D → Gp → K3 → Prop := fun p xs ds G Q => match ds with
  | [] => ∃ y, xs[xs.length - 1]? = some y ∧ Q y (gup G p (.lst xs.dropLast))
  | _ => False
section
variable {X : Cx} {B : BT} {ms : List Nat} {pos apos cpos : Pos} {o : Expr} {to : TE3} {es : List Expr} {t : TG3} {u : TGs3}
theorem lg_starG {k i : Nat} (hc : X.calm = true) (h : LGs X B ms es u) (hn : (assignEach es X.env).length = i + 1 := by rfl) (hst : (assignEach es X.env).findIdx? (·.1) = some i := by rfl) : LG X B ms (.Tuple es k pos) (gStarG i u) :=
  (pg_star hc h hn hst).imp fun v σ H Q ⟨Fz, tv, τ, G, d, Q3, hB, r, rv, ht, k⟩ => by
    have ht' : (match itemsOf G d with
      | some ds => i ≤ ds.length ∧ ∀ p, G p = none → u (ds.take i ++ [.ref p]) τ (gup G p (.lst (ds.drop i))) Q3
      | none => False) := ht
    cases e : itemsOf G d with
    | none => rw [e] at ht'; exact ht'.elim
    | some ds =>
      rw [e] at ht'
      obtain ⟨a, vs, rfl, hs, rs⟩ := items_at r.hr rv e
      refine ⟨a, vs, rfl, hs, by rw [rs.len]; exact ht'.1, fun p hp => ?_⟩
      have ew := Ext.newG (o := .lst (vs.drop i)) r.hr hp
      have r2 := r.ext ew (r.hr.newG (g := .lst (ds.drop i)) hp ⟨vs.drop i, upd_same, (rs.drop i).ext ew⟩)
      exact ⟨_, tv, _, _, _, Q3, hB, r2, ((rs.take i).ext ew).append (.one (.ref p)), ht'.2 p (r.hr.free hp), k⟩
theorem sim_popE {K : PySem.W.Frag} : SimL K rPop rPopE3 := by
  intro Fz σ H tv τ G p vs ws xs ds Q Q3 r hG hH rx rd h k
  match ds, h with
  | [], h =>
    obtain ⟨y, e2, q⟩ := h
    obtain rfl := rd.inv_nil
    obtain ⟨w, hw, rw'⟩ := rx.get e2
    have ew := Ext.wr (o := .lst vs.dropLast) r.hr hG
    have rd' : Reps K Fz H vs.dropLast xs.dropLast := by
      rw [List.dropLast_eq_take, List.dropLast_eq_take, rx.len]; exact rx.take _
    have hr3 := r.hr.wr (o := .lst vs.dropLast) (g := .lst xs.dropLast) hG ⟨_, upd_same, rd'.ext ew⟩
    exact ⟨p, vs, w, rfl, rfl, hH, by rw [rx.len]; exact hw, k _ _ (.mk (r.ext ew hr3) (rw'.ext ew) q)⟩
theorem le_popE (ho : LE X B o to) (hbase : attributeBase o "pop" X.env (eval o X.env) = eval o X.env := by rfl) (hline : (apos.endLine == cpos.line) = true := by rfl) : LE X B (.Call (.Attribute o "pop" apos) [] [] cpos) (lLm rPopE3 to lNil) :=
  (pe_bm0 PySem.F.plainAttrs_list PySem.F.slot_list_pop PySem.F.type_list_pop mt_pop ho hbase hline).imp fun σ H Q ⟨Fz, tv, τ, G, Q3, hB, r, ht, k⟩ => emb.mk hB r ht fun v H1 Fz1 d G1 r1 h1 => by
    cases d with
    | ref p =>
      have h1' : (match G1 p with
        | some (.lst _) => (match G1 p with
          | some (.lst xs) => rPopE3 p xs [] G1 Q3
          | _ => False)
        | _ => False) := h1
      have hv := r1.h1.inv_ref
      subst hv
      split at h1'
      · rename_i xs e
        obtain ⟨_, vs, ha, rk⟩ := r1.hr.go _ _ e
        refine ⟨.inl ⟨rfl, vs, SqL.of ha⟩, ?_⟩
        exact sim_popE r1.tl e ha rk .nil h1' k
      · exact h1'.elim
    | _ => exact h1.elim
end
end L3
end

section
set_option Elab.async false
set_option linter.all false
set_option maxRecDepth 100000
set_option maxHeartbeats 4000000
/-! L3ro: raise, lambda calls, the law's def by structures that join well. -/
namespace L3
open PySem PySem.Spec PyProof.Rows L2 LamX
/-- the class C of the name x is raised as x(e), its field f -/
structure CalR (P : Program) (w : World) (K : PySem.W.Frag) (mg : Str → Option Value) (base : Heap) (x f : Str) (C : Addr) (k : Nat) : Prop where
  ex : ∃ (Bn newId initId : String) (bmB : List Value) (fI : Addr) (fd : FuncData) (ps : List Str), XiC K C Bn newId initId bmB ∧ PySem.W.findIn K (.ref C) "__init__" = some (some (.ref fI)) ∧ PySem.W.typeIn K (.ref fI) = some (.type "function") ∧
    FnOk P w K mg base CX0 k fI fd ps (spXi C f) ∧ Binds K fd ps [] ∧ mg x = some (.ref C)
section
variable {X : Cx} {B : BT} {x f : Str} {C : Addr} {k : Nat} {p pos pos' : Pos} {w : WE3} {e : Expr} {te : TE3}
theorem ls_raiseE (R : CalR X.prog X.w X.K X.mg X.base x f C k) (hc : X.calm = true) (tk : L2N.Takes X (wE X.K B w)) (room : Room (k + 1) X.A) (he : LE X B e te) (hg : Gl X x := by rfl) (hdb : (x == ("__debug__" : Str)) = false := by decide)
    (hst : starEach [e] X.env = (false, eval e X.env) :: starEach [] X.env := by rfl) (hpl : (backTo pos (starEach [] X.env)).any (·.1) = false := by rfl) : LS X B (.Raise (some (.Call (.Name x p) [e] [] pos)) none pos') (sRaise1 C f te w) := by
  obtain ⟨Bn, newId, initId, bmB, fI, fd, ps, T, iC, tI, F1, hb, hm⟩ := R.ex
  exact ls_raise1 hc tk T iC tI F1 room hb hm he hg hdb hst hpl
end
/-- a def that calls the lambda it got -/
structure CalL (P : Program) (w : World) (K : PySem.W.Frag) (mg : Str → Option Value) (base : Heap) (x a : Str) (Ng : List Str) (tt : Str → Addr → Addr → Deed → TS3) : Prop where
  ex : ∃ (g : Addr) (pg : Arguments) (bg : List Stmt) (sg : Scope) (dV kV doc pm cdv ct oc : Value) (an od : Option Addr) (osl : Array (Option Value)), mg x = some (.ref g) ∧ PySem.W.keepIn K (.ref g) = true ∧
    K.lookup g = some ⟨oc, od, .func (PySem.W.fnOf x x pg bg sg dV kV doc pm an cdv ct), osl⟩ ∧ PySem.W.codeIn K cdv x = true ∧ L2.Binds K (PySem.W.fnOf x x pg bg sg dV kV doc pm an cdv ct) [a] [] ∧ FnScope Ng [a] sg ∧ Ng[0]? = some a ∧ Vis sg a ∧
    ∀ (X : Cx) (q : Str), X.prog = P → X.w = w → X.K = K → X.mg = mg → X.base = base → GivesN X Ng x sg g cdv bg a q (TTL X.K Ng q (tt q))
theorem calL_of {P : Program} {w : World} {K : PySem.W.Frag} {mg : Str → Option Value} {base : Heap} {x a : Str} {params : Arguments} {body : List Stmt} {scope : Scope} {g : Addr} {Ng : List Str} {tt : Str → Addr → Addr → Deed → TS3}
    (F : ∃ fd, FunD K x x params body scope [] [] g fd) (hg : mg x = some (.ref g)) (hb : ∀ fd, FunD K x x params body scope [] [] g fd → L2.Binds K fd [a] []) (S : FnScope Ng [a] scope) (h0 : Ng[0]? = some a) (hv : Vis scope a)
    (walk : ∀ (f c' : Addr) (s : Shared) (H : Hp) (deed : Deed) (B : BT) (A : Around) (outer : List Env) (cdg : Value) (q : Str), Room 3 (A.deeper (envOfC x scope s.heap.objs.size g cdg)) →
      (∀ (w3 : WE3) (B' : BT) (pn : List (Addr × Obj)) (xe : Value → Shared → Prop) (p1 p2 : Pos), (∀ p ∈ B, p ∈ B') → L2N.Takes ((cxOf CX0 P w K mg base Ng x scope g cdg A outer s H E0).tr pn xe) (wE K B' w3) →
        LE ((cxOf CX0 P w K mg base Ng x scope g cdg A outer s H E0).tr pn xe) B' (.Call (.Name a p1) [] [] p2) (lDeed f c' q deed w3)) →
      LB (cxOf CX0 P w K mg base Ng x scope g cdg A outer s H E0).nox B body (tt q f c' deed)) : CalL P w K mg base x a Ng tt := by
  obtain ⟨fd, F⟩ := F
  have hb' := hb fd F
  obtain ⟨oc, od, dV, kV, doc, pm, an, cdv, ct, osl, rfl, lk, hcd, _, _⟩ := F.ex
  refine ⟨g, params, body, scope, dV, kV, doc, pm, cdv, ct, oc, an, od, osl, hg, F.kp, lk, hcd, hb', S, h0, hv, fun X q e1 e2 e3 e4 e5 => gives3 fun f c' s H deed B room act => ?_⟩
  subst e1 e2 e3 e4 e5
  exact walk f c' s H deed B X.A X.stack cdv q room act
/-- what a lambda's body comes to -/
def xCall (sp : SpE) (ddv : List D) (t : TA3) : TX3 := fun w τ G Q => t τ G fun ds G1 => sp (ds ++ ddv) G1 Q w
def xCallK (sp : SpE) (te te2 : TE3) : TX3 := fun w τ G Q => te τ G fun y1 G1 => te2 τ G1 fun y2 G2 => sp [y1, y2] G2 Q w
section
variable {X : Cx} {B : BT} {tt : Str → Addr → Addr → Deed → TS3} {x a : Str} {c P : Addr} {k : Nat} {Ng : List Str} {params : Arguments} {body : Expr} {scope : Scope} {tb : TX3} {p lpos pos : Pos}
theorem le_lamC (C : CalL X.prog X.w X.K X.mg X.base x a Ng tt) (TB : TabB X.base X.mg c P) (hcode : X.env.code = .ref c) (room : Room (k + 4) X.A) (hl : lamSB X.env.scope scope = true)
    (hbody : ∀ (A : Around) (outer : List Env) (s : Shared) (H : Hp) (E : XK) (f c' : Addr), Room k (A.deeper (lamEnv X scope s.heap.objs.size f c')) → PE (lamN X A outer s H E scope f c') body (embX X.K tb E))
    (hg : Gl X x := by rfl) (noD : defaultsOf params X.env = ([], []) := by rfl)
    (noA : ∀ (q : Str) (cl : List (Str × Addr)) (pm cv ctv : Value), bindArgs (PySem.W.kla_fn "<lambda>" q params body scope cl pm cv ctv) ⟨[], []⟩ = pure [] := by intro _ _ _ _ _; rfl)
    (hdb : (x == ("__debug__" : Str)) = false := by decide) (hd : (a == ("__debug__" : Str)) = false := by decide) (hcd : (a == ("__classdict__" : Str)) = false := by decide) :
    LE X B (.Call (.Name x p) [.Lambda params body scope lpos] [] pos) (lLam [(P, X.env.qual ++ "<lambda>")] (X.env.qual ++ "<lambda>") Ng (tt (X.env.qual ++ "<lambda>")) tb) := by
  obtain ⟨g, pg, bg, sg, dV, kV, doc, pm, cdv, ct, oc, an, od, osl, hm, hk, lk, hcg, hb, Sg, hNg, hva, hG⟩ := C.ex
  exact le_lam hg hm hk lk hcg hb Sg hNg hva (hG X _ rfl rfl rfl rfl rfl) TB hcode (List.mem_singleton.mpr rfl) (fun p hp _ => by rw [List.mem_singleton.mp hp]) room (lamS_by hl) noD noA hbody hdb hd hcd
end
/-- the law's def, its code object known -/
theorem fnC_ok {P : Program} {w : World} {K : PySem.W.Frag} {mg : Str → Option Value} {base : Heap} {x qual : Str} {params : Arguments} {body : List Stmt} {scope : Scope} {dvs : List V} {kws : List (Str × V)} {f c : Addr} {fd : FuncData} {N ps : List Str} {k : Nat} {sp : Sp3}
    (F : FunD K x qual params body scope dvs kws f fd) (hc : fd.code = .ref c) (S : FnScope N ps scope) (len : ∀ ds G Q, sp ds G Q → ds.length = ps.length)
    (hbody : ∀ (A : Around) (outer : List Env) (s : Shared) (H : Hp) (E : XK), Room k (A.deeper (envOfC qual scope s.heap.objs.size f (.ref c))) →
      ∃ t, LB (cxOf CX0 P w K mg base N qual scope f (.ref c) A outer s H E).nox [] body t ∧ ∀ ds G Q, sp ds G Q → t { nx := fun _ G' => Q .non G', rt := Q } (start3 N ds) G) : FnOk P w K mg base CX0 (k + 1) f fd ps (low K sp) := by
  obtain ⟨oc, od, dV, kV, doc, pm, an, cdv, ct, osl, rfl, lk, hcd, _, _⟩ := F.ex
  cases (show cdv = Value.ref c from hc)
  refine fn_of lk hcd S (fun vs H Q E h => ?_) fun A outer s H vs Q E hr h => ?_
  · obtain ⟨Fz, tv, ds, G, Q3, _, _, rs, h, _⟩ := h
    rw [rs.len]
    exact len ds G Q3 h
  · obtain ⟨t, ht, hq⟩ := hbody A outer s H E hr
    obtain ⟨Fz, tv, ds, G, Q3, h1, h2, rs, h, kk⟩ := h
    refine ⟨_, ht.nox, Fz, tv, start3 N ds, G, { nx := fun _ G' => Q3 .non G', rt := Q3 }, fun p hp => absurd hp (by simp), start_rel N h1 h2 rs, hq ds G Q3 h, ?_⟩
    exact ⟨fun σ' τ' G' Fz' H' r q => kk .non H' Fz' .non G' r.hr (fun p hp => r.tmp p hp) .non q, fun d G' v H' Fz' σ' τ' r q => kk v H' Fz' d G' r.hr (fun p hp => r.tmp p (List.mem_cons_of_mem _ hp)) r.h1 q,
      fun _ _ _ _ _ _ q => q.elim, fun _ _ _ _ _ _ q => q.elim⟩
end L3
end

section
set_option Elab.async false
set_option linter.all false
set_option maxRecDepth 100000
set_option maxHeartbeats 4000000
/-! L3xo: own exceptions over an own base: Base.__init__(self, ..). -/
namespace L3
open PySem PySem.Spec PyProof.Rows L2
/-- the own class W's __init__ is the built-in base's -/
structure BaseW (K : PySem.W.Frag) (W : Addr) (initId : String) : Prop where
  sp : PySem.W.specialIn K (.ref W) "__getattribute__" = some (some (.builtin "type.__getattribute__"))
  rd : PySem.W.readsIn K W (.type "type") = true
  fc : PySem.W.findCls K (.ref W) (.type "type") "__init__" = some (.val (.builtin initId))
  hd : PySem.W.handedIn (.builtin initId) = true
def baseWB (K : PySem.W.Frag) (W : Addr) (initId : String) : Bool := decide (PySem.W.specialIn K (.ref W) "__getattribute__" = some (some (.builtin "type.__getattribute__"))) && (PySem.W.readsIn K W (.type "type") && ((match PySem.W.findCls K (.ref W) (.type "type") "__init__" with
  | some (.val (.builtin x)) => decide (x = initId)
  | _ => false) && PySem.W.handedIn (.builtin initId)))
theorem baseWB_ok {K : PySem.W.Frag} {W : Addr} {initId : String} (h : baseWB K W initId = true) : BaseW K W initId := by
  unfold baseWB at h
  obtain ⟨h1, h⟩ := Bool.and_eq_true_iff.mp h
  obtain ⟨h2, h⟩ := Bool.and_eq_true_iff.mp h
  obtain ⟨h3, h4⟩ := Bool.and_eq_true_iff.mp h
  refine ⟨of_decide_eq_true h1, h2, ?_, h4⟩
  split at h3
  · rename_i x e
    rw [e, of_decide_eq_true h3]
  · cases h3
section
variable {X : Cx} {o e : Expr} {es : List Expr} {to te : TE} {ta : TA} {f : Str} {p p' p1 p2 pos : Pos} {B newId initId : String} {bmB : List Value} {C W : Addr}
theorem pe_xinitO {x : Str} {pl : Sem Bool} (T : XiC X.K C B newId initId bmB) (bw : BaseW X.K W initId) (hg : Gl X x) (hm : X.mg x = some (.ref W)) (ha : PA X (e :: es) ta) (hdb : (x == ("__debug__" : Str)) = false)
    (hc : eval (.Call (.Attribute (.Name x p1) "__init__" p2) (e :: es) [] pos) X.env = (do
      let ov ← eval (.Name x p1) X.env
      standAt p2.atName
      let (f, first) ← holding [ov] (getMethod ov "__init__" pl)
      callWith pos f first (backTo pos (starEach (e :: es) X.env)) (backToKw pos (keywordEach [] X.env))) := by rfl)
    (he : starEach (e :: es) X.env = (false, eval e X.env) :: starEach es X.env := by rfl) (hpl : (backTo pos (starEach es X.env)).any (·.1) = false := by rfl) :
    PE X (.Call (.Attribute (.Name x p1) "__init__" p2) (e :: es) [] pos) (tXi X.K C ta) := by
  refine ⟨fun pins s σ H Q I h => PySem.W.methodCall_KW (ld_glob I hg hm ?_ hdb) hc⟩
  refine PySem.W.method_cls I.kIn bw.sp (PySem.W.cls_value I.kIn bw.rd bw.fc bw.hd ?_)
  show wpAny _ _ (callWith pos (Value.builtin initId) [] (backTo pos (starEach (e :: es) X.env)) []) _ _ _
  refine PyProof.Rows.callWith_method1 (thn (ha.run pos pins _ σ H _ (I.tok _) h) fun us s1 ⟨vs, H1, I1, r1, a, ws, ev, hl, ea, q⟩ => ?_) he hpl
  subst ev
  cases r1 with
  | @cons _ u0 _ ur ra rw' =>
    cases (show u0 = Value.ref a from ra)
    exact xi_init T I1 ea (by rw [← Paired.length rw', sizeLine_eq]; omega) fun s' J => ⟨.non, H1, J, rfl, q⟩
end
end L3
end

section
set_option Elab.async false
set_option linter.all false
set_option maxRecDepth 100000
set_option maxHeartbeats 0
namespace K69
open PySem PySem.Spec PyProof.Rows L2
def own16 : List Str := ["Broken", "Full", "Gone", "NoDeed", "NoFile", "NoName", "NoNumber", "NoPages", "NoQuery", "NoShelf", "NoSize", "NoSlot", "NoText", "Taken", "Torn", "Wrong"]
def blt5 : List String := ["RuntimeError", "OverflowError", "KeyError", "LookupError", "ValueError"]
def isaH : Str → Bool := fun x => decide (x = "NoDeed") || (decide (x = "Wrong") || decide (x = "ValueError"))
def bmVE : List Value := [.type "ValueError", .type "Exception", .type "BaseException", .type "object"]
def ownxB (K : PySem.W.Frag) (C : Addr) : Bool := PySem.W.excInitIn K C bmVE "ValueError.__new__" && (PySem.W.excOver K C bmVE && (decide (PySem.W.findIn K (.ref C) "__setattr__" = some (some (.builtin "object.__setattr__"))) && (decide (PySem.W.typeIn K (.ref C) = some (.type "type")) && (PySem.W.keepIn K (.ref C) &&
  (decide (PySem.W.typeIn K (.ref (He.ma K C "__init__")) = some (.type "function")) && (decide (PySem.W.findIn K (.ref C) "__init__" = some (some (.ref (He.ma K C "__init__")))) && decide (PySem.W.findIn K (.ref C) "at" = some none)))))))
def excCB (K : PySem.W.Frag) (C : Addr) : Bool := decide (PySem.W.findIn K (.ref C) "__class__" = some (some (.builtin "object.__class__"))) && (decide (PySem.W.specialIn K (.builtin "object.__class__") "__get__" = some (some (.builtin "getset_descriptor.__get__"))) && (decide (PySem.W.takesIn K (.builtin "object.__class__") = some true) && decide (PySem.W.mroIn K C (.type "object") = some true)))
def kitsB (K : PySem.W.Frag) (C : Addr) : Bool := own16.all (fun x => decide (PySem.W.kitOne K (.ref C) (.ref (He.ga K x)) = some (isaH x))) && blt5.all fun x => decide (PySem.W.kitOne K (.ref C) (.type x) = some (isaH (Str.ofString x)))
def exT (K : PySem.W.Frag) : Bool := ownxB K (He.ga K "NoDeed") && (L2.xfB K (He.ga K "NoDeed") && (excCB K (He.ga K "NoDeed") && (kitsB K (He.ga K "NoDeed") && (L3.baseWB K (He.ga K "Wrong") "ValueError.__init__" && (decide (PySem.W.exmAny K (.ref (He.ga K "NoDeed")) [.ref (He.ga K "NoFile"), .ref (He.ga K "Torn")] = some false) &&
  (decide (PySem.W.exmAny K (.ref (He.ga K "NoDeed")) [.ref (He.ga K "NoDeed")] = some true) && L3.tup0B K (L3.kwdAt ("Disk", some "crash") "picks" K)))))))
def fa2 : List He.Fa := [.free "any", .free "sum", .free "ord", .glo "Broken", .glo "Full", .glo "Gone", .glo "NoDeed", .glo "NoFile", .glo "NoName", .glo "NoNumber", .glo "NoPages", .glo "NoQuery", .glo "NoShelf", .glo "NoSize", .glo "NoSlot", .glo "NoText", .glo "Taken", .glo "Torn", .glo "Wrong", .free "RuntimeError", .free "OverflowError", .free "KeyError", .free "LookupError", .free "ValueError"] ++ fa
def tf : List He.Defn := [("law", none)]
abbrev hk2 : PySem.W.Hook := L3.hookY (L3.asS 5) fa2 fn [] tf exT
def ob2 (s : PySem.W.SharedT) : He.AlX := L3.obsY (L3.asS 5) fa2 fn [] tf exT (HandSHeadRun.getT s)
theorem ob2_eq (s : PySem.W.SharedT) : ob2 s = hk2.obs s.abs := L3.obsY_eq (HandSHeadRun.getT_eq s)
end K69
end

section
set_option Elab.async false
set_option linter.all false
set_option maxRecDepth 100000
set_option maxHeartbeats 4000000
/-! L3me: calls that may raise, by names and of methods, with keywords too; a lambda's body by such rules. -/
namespace L3
open PySem PySem.Spec PyProof.Rows L2 LamX
/-! ### methods where what is raised is wished for at the caller's slots -/
section
variable {X : Cx} {CX : CXT} {k n : Nat} {f C : Addr} {fd : FuncData} {ps ks : List Str} {sp : Sp} {dvs : List V} {ds : List Value} {E : L2.St → XK} {x m : Str} {p pos apos : Pos} {o e : Expr} {es : List Expr} {kws : List Keyword} {ta : TE} {t tk : TA} {g : List Value → List Value → List Value} {gV : List V → List V → List V} {pl : Sem Bool}
def tMethSD (C : Addr) (m : Str) (sp : Sp) (dvs : List V) (E : L2.St → XK) (ta : TE) (t : TA) : TE := fun σ H Q => ta σ H fun x H1 => ∃ a dx fs, x = .ref a ∧ H1 a = some (.ins C dx fs) ∧ fs.lookup m = none ∧ t σ H1 fun vs H2 => sp (x :: (vs ++ dvs)) H2 Q (E σ)
theorem pe_methSD (he : PE X o ta) (c : Cls X.K C) (hm : Meth X.K C m f) (F : FnOk X.prog X.w X.K X.mg X.base CX k f fd ps sp) (hr : Room k X.A) (hb : Binds X.K fd ps ds) (hd : Vals dvs ds) (hx : ∀ σ, PassesAt CX X σ (E σ)) (ha : PA X (e :: es) t)
    (hst : starEach (e :: es) X.env = (false, eval e X.env) :: starEach es X.env := by rfl) (hpl : (backTo pos (starEach es X.env)).any (·.1) = false := by rfl)
    (ht : eval (.Call (.Attribute o m apos) (e :: es) [] pos) X.env = (do
      let ov ← eval o X.env
      standAt apos.atName
      let (f, first) ← holding [ov] (getMethod ov m pl)
      callWith pos f first (backTo pos (starEach (e :: es) X.env)) (backToKw pos (keywordEach [] X.env))) := by rfl) : PE X (.Call (.Attribute o m apos) (e :: es) [] pos) (tMethSD C m sp dvs E ta t) := by
  refine ⟨fun pins s σ H Q I h => PySem.W.methodCall_KW (pl := pl) (thn (he.run pins s σ H _ I h) fun u s1 ⟨x, H1, I1, rx, a, dx, fs, ex, ea, l, q⟩ => ?_) ht⟩
  subst ex
  obtain rfl : u = Value.ref a := rx
  refine getmeth_ok I1 ea c hm l (PySem.W.callWith_K (first := [.ref a]) (h₀ := X.base) I.ok.mod.kin hm.kp (thn (ha.run pos pins s1 σ H1 _ I1 q) fun us s2 ⟨vs, H2, I2, r, q2⟩ => ⟨I2.kIn, ?_⟩) hst hpl)
  exact run_fnSD (us := .ref a :: us) (vs := .ref a :: vs) F hr hb hd (hx σ) I2 (.cons rfl r) q2
theorem pe_methSD0 (he : PE X o ta) (c : Cls X.K C) (hm : Meth X.K C m f) (F : FnOk X.prog X.w X.K X.mg X.base CX k f fd ps sp) (hr : Room k X.A) (hb : Binds X.K fd ps ds) (hd : Vals dvs ds) (hx : ∀ σ, PassesAt CX X σ (E σ))
    (ht : eval (.Call (.Attribute o m apos) [] [] pos) X.env = (do
      let ov ← eval o X.env
      standAt apos.atName
      let (f, first) ← holding [ov] (getMethod ov m pl)
      callWith pos f first (backTo pos (starEach [] X.env)) (backToKw pos (keywordEach [] X.env))) := by rfl) : PE X (.Call (.Attribute o m apos) [] [] pos) (tMethSD C m sp dvs E ta tNil) := by
  refine ⟨fun pins s σ H Q I h => PySem.W.methodCall_KW (pl := pl) (thn (he.run pins s σ H _ I h) fun u s1 ⟨x, H1, I1, rx, a, dx, fs, ex, ea, l, q⟩ => ?_) ht⟩
  subst ex
  obtain rfl : u = Value.ref a := rx
  exact getmeth_ok I1 ea c hm l (PySem.W.callWith_K0 (first := [.ref a]) I1.kIn hm.kp (run_fnSD (us := [.ref a]) (vs := [.ref a]) F hr hb hd (hx σ) I1 (.cons rfl .nil) q))
theorem run_fnSN {pins : List (Addr × Obj)} {σ : L2.St} {H : Hp} {s : Shared} {Q : VK} {us ws : List Value} {vs zs : List V} (F : FnOk X.prog X.w X.K X.mg X.base CX k f fd ps sp) (hr : Room k X.A) (hb : KBn X.K fd ps n ks g gV) (hx : PassesAt CX X σ (E σ))
    (I : Inv X pins σ H s) (r : Vals vs us) (rz : Vals zs ws) (l1 : vs.length = n) (l2 : zs.length = ks.length) (h : sp (gV vs zs) H Q (E σ)) : wpAny (model X.prog X.w) X.A (call (.ref f) us (ks.zip ws)) (EP X pins σ Q) X.xe s := by
  have bnd := hb.to s us ws I.kIn (r.length.symm.trans l1) (rz.length.symm.trans l2)
  refine wpAny_call (codeAny_mono (F.run X.A X.stack s H ⟨us, ks.zip ws⟩ (g us ws) (gV vs zs) Q (E σ) hr I.env0 bnd (hb.rel r rz) h) fun out s' done => ?_)
  cases out with
  | error er => exact hx pins H s er s' I done
  | ok fl => cases fl with
    | ret u => exact I.after done
    | next => exact (show False from done).elim
    | brk => exact (show False from done).elim
    | cont => exact (show False from done).elim
def tMethSN (C : Addr) (mm : Str) (n m : Nat) (sp : Sp) (gV : List V → List V → List V) (E : L2.St → XK) (ta : TE) (t tk : TA) : TE := fun σ H Q => ta σ H fun x H1 => ∃ a dx fs, x = .ref a ∧ H1 a = some (.ins C dx fs) ∧ fs.lookup mm = none ∧
  t σ H1 fun vs H2 => tk σ H2 fun zs H3 => vs.length + 1 = n ∧ zs.length = m ∧ sp (gV (x :: vs) zs) H3 Q (E σ)
/-- o.m(e, .., k = v, ..) -/
theorem pe_methSN (he : PE X o ta) (c : Cls X.K C) (hm : Meth X.K C m f) (F : FnOk X.prog X.w X.K X.mg X.base CX k f fd ps sp) (hr : Room k X.A) (hb : KBn X.K fd ps n ks g gV) (hx : ∀ σ, PassesAt CX X σ (E σ)) (ha : PA X (e :: es) t) (hkw : PK X kws tk)
    (hall : (backToKw pos (keywordEach kws X.env)).all (·.1.isSome) = true := by rfl) (hks : (backToKw pos (keywordEach kws X.env)).filterMap (·.1) = ks := by rfl) (hst : starEach (e :: es) X.env = (false, eval e X.env) :: starEach es X.env := by rfl)
    (hpl : ((backTo pos (starEach (e :: es) X.env)).any (·.1) || (backToKw pos (keywordEach kws X.env)).any (·.1.isNone)) = false := by rfl)
    (ht : eval (.Call (.Attribute o m apos) (e :: es) kws pos) X.env = (do
      let ov ← eval o X.env
      standAt apos.atName
      let (f, first) ← holding [ov] (getMethod ov m pl)
      callWith pos f first (backTo pos (starEach (e :: es) X.env)) (backToKw pos (keywordEach kws X.env))) := by rfl) : PE X (.Call (.Attribute o m apos) (e :: es) kws pos) (tMethSN C m n ks.length sp gV E ta t tk) := by
  refine ⟨fun pins s σ H Q I h => PySem.W.methodCall_KW (pl := pl) (thn (he.run pins s σ H _ I h) fun u s1 ⟨x, H1, I1, rx, a, dx, fs, ex, ea, l, q⟩ => ?_) ht⟩
  subst ex
  obtain rfl : u = Value.ref a := rx
  refine getmeth_ok I1 ea c hm l (PySem.W.callWith_KW (first := [.ref a]) (h₀ := X.base) I.ok.mod.kin hm.kp hall (thn (ha.run pos pins s1 σ H1 _ I1 q) fun us s2 ⟨vs, H2, I2, r, q2⟩ => thn (hkw.run pos pins s2 σ H2 _ I2 q2) fun ws s3 ⟨zs, H3, I3, rz, l1, l2, q3⟩ => ⟨I3.kIn, ?_⟩) hpl hst)
  rw [hks]
  exact run_fnSN (us := .ref a :: us) (vs := .ref a :: vs) F hr hb (hx σ) I3 (.cons rfl r) rz l1 l2 q3
/-- o.m(k = v, ..) -/
theorem pe_methSN0 (he : PE X o ta) (c : Cls X.K C) (hm : Meth X.K C m f) (F : FnOk X.prog X.w X.K X.mg X.base CX k f fd ps sp) (hr : Room k X.A) (hb : KBn X.K fd ps n ks g gV) (hx : ∀ σ, PassesAt CX X σ (E σ)) (hkw : PK X kws tk)
    (hall : (backToKw pos (keywordEach kws X.env)).all (·.1.isSome) = true := by rfl) (hks : (backToKw pos (keywordEach kws X.env)).filterMap (·.1) = ks := by rfl)
    (hpl : ((backTo pos (starEach [] X.env)).any (·.1) || (backToKw pos (keywordEach kws X.env)).any (·.1.isNone)) = false := by rfl)
    (ht : eval (.Call (.Attribute o m apos) [] kws pos) X.env = (do
      let ov ← eval o X.env
      standAt apos.atName
      let (f, first) ← holding [ov] (getMethod ov m pl)
      callWith pos f first (backTo pos (starEach [] X.env)) (backToKw pos (keywordEach kws X.env))) := by rfl) : PE X (.Call (.Attribute o m apos) [] kws pos) (tMethSN C m n ks.length sp gV E ta tNil tk) := by
  refine ⟨fun pins s σ H Q I h => PySem.W.methodCall_KW (pl := pl) (thn (he.run pins s σ H _ I h) fun u s1 ⟨x, H1, I1, rx, a, dx, fs, ex, ea, l, q⟩ => ?_) ht⟩
  subst ex
  obtain rfl : u = Value.ref a := rx
  refine getmeth_ok I1 ea c hm l (PySem.W.callWith_KW0 (first := [.ref a]) (h₀ := X.base) I.ok.mod.kin hm.kp hall (thn (hkw.run pos pins s1 σ H1 _ I1 q) fun ws s3 ⟨zs, H3, I3, rz, l1, l2, q3⟩ => ⟨I3.kIn, ?_⟩) hpl)
  rw [hks]
  exact run_fnSN (us := [.ref a]) (vs := [.ref a]) F hr hb (hx σ) I3 (.cons rfl .nil) rz l1 l2 q3
end
/-! ### by data -/
abbrev LK (X : Cx) (B : BT) (kws : List Keyword) (t : TA3) : Prop := PK X kws (embA X.K B t)
theorem _root_.L2.PK.imp {X : Cx} {kws : List Keyword} {t t' : TA} (h : PK X kws t) (i : ∀ σ H Q, t' σ H Q → t σ H Q) : PK X kws t' := ⟨fun pos pins s σ H Q I q => h.run pos pins s σ H Q I (i σ H Q q)⟩
theorem lk_nil {X : Cx} {B : BT} : LK X B [] lNil := pk_nil.imp fun σ H Q ⟨Fz, tv, τ, G, Q3, hB, r, ht, k⟩ => k [] H ⟨Fz, [], G, .nil, r, ht⟩
theorem lk_cons {X : Cx} {B : BT} {nm : Option Str} {e : Expr} {kpos : Pos} {kws : List Keyword} {te : TE3} {t : TA3} (ha : LE X B e te) (hr : LK X B kws t) : LK X B (⟨nm, e, kpos⟩ :: kws) (lCons te t) :=
  (pk_cons ha hr).imp fun σ H Q ⟨Fz, tv, τ, G, Q3, hB, r, ht, k⟩ => emb.mk hB r ht fun v H1 Fz1 x G1 r1 h1 => embA.mk (subB hB) r1 h1 fun vs H2 Fz2 ds G2 rs r2 h2 =>
    k (v :: vs) H2 ⟨Fz2, x :: ds, G2, .cons r2.h1 rs, r2.tl, h2⟩
/-- what is raised goes to w -/
def upW (w : WE3) (τ : T3) : W0 := fun C d G => w C d τ G
theorem lowE_of {K : PySem.W.Frag} {tv B : BT} {τ : T3} {G : Gp} {Fz : Addr → Prop} {σ : L2.St} {H : Hp} {sp : SpE} {vs : List V} {ds : List D} {Q : VK} {Q3 : K3} {w : WE3} (hB : ∀ p ∈ B, p ∈ tv) (r : Rel K tv τ G Fz σ H) (rs : Reps K Fz H vs ds) (h : sp ds G Q3 (upW w τ)) (k : ∀ v H', PostE K tv τ σ Q3 v H' → Q v H') :
    lowE K sp vs H Q (WE (wE K B w) σ) :=
  ⟨Fz, slotsL σ τ ++ tv, ds, G, Q3, _, r.hr, fun p hp => (List.mem_append.mp hp).elim (r.slots_rep p) (r.tmp p), rs, h, fun v H' Fz' d G' hr tm rv q =>
    k v H' (.mk (r.again hr (fun p hp => tm p (List.mem_append_left _ hp)) fun p hp => tm p (List.mem_append_right _ hp)) rv q), fun C d H' Fz' G' hr tm hw =>
    ⟨C, Fz', τ, G', rfl, (r.again hr (fun p hp => tm p (List.mem_append_left _ hp)) fun p hp => tm p (List.mem_append_right _ hp)).sub hB, hw⟩⟩
/-- f(e, ..) that may raise -/
def lCallE (sp : SpE) (ddv : List D) (w : WE3) (t : TA3) : TE3 := fun τ G Q => t τ G fun ds G1 => sp (ds ++ ddv) G1 Q (upW w τ)
/-- o.m(e, ..) that may raise -/
def lMethE (C : Addr) (m : Str) (sp : SpE) (ddv : List D) (w : WE3) (te : TE3) (t : TA3) : TE3 := fun τ G Q => te τ G fun d G1 => ∃ fs, insOf G1 d = some (C, fs) ∧ fs.lookup m = none ∧ t τ G1 fun ds G2 => sp (d :: (ds ++ ddv)) G2 Q (upW w τ)
/-- .. with keywords: gD puts what is handed in into the parameters' order -/
def lMethN (C : Addr) (m : Str) (n j : Nat) (sp : SpE) (gD : List D → List D → List D) (w : WE3) (te : TE3) (t tk : TA3) : TE3 := fun τ G Q => te τ G fun d G1 => ∃ fs, insOf G1 d = some (C, fs) ∧ fs.lookup m = none ∧
  t τ G1 fun ds G2 => tk τ G2 fun es G3 => ds.length + 1 = n ∧ es.length = j ∧ sp (gD (d :: ds) es) G3 Q (upW w τ)
structure CalME (P : Program) (w : World) (K : PySem.W.Frag) (mg : Str → Option Value) (base : Heap) (C : Addr) (m : Str) (k : Nat) (sp : SpE) (ddv : List D) : Prop where
  cls : Cls K C
  ex : ∃ (f : Addr) (fd : FuncData) (ps : List Str) (dvs : List V) (ds : List Value), Meth K C m f ∧ FnOk P w K mg base (L2N.CX P w) k f fd ps (lowE K sp) ∧ Binds K fd ps ds ∧ Vals dvs ds ∧ ∀ Fz H, Reps K Fz H dvs ddv
structure CalMN (P : Program) (w : World) (K : PySem.W.Frag) (mg : Str → Option Value) (base : Heap) (C : Addr) (m : Str) (k n : Nat) (ks : List Str) (sp : SpE) (gD : List D → List D → List D) : Prop where
  cls : Cls K C
  ex : ∃ (f : Addr) (fd : FuncData) (ps : List Str) (g : List Value → List Value → List Value) (gV : List V → List V → List V), Meth K C m f ∧ FnOk P w K mg base (L2N.CX P w) k f fd ps (lowE K sp) ∧ KBn K fd ps n ks g gV ∧
    ∀ {Fz : Addr → Prop} {H : Hp} {vs zs : List V} {ds es : List D}, Reps K Fz H vs ds → Reps K Fz H zs es → Reps K Fz H (gV vs zs) (gD ds es)
section
variable {X : Cx} {B : BT} {x m : Str} {C : Addr} {k n : Nat} {ks : List Str} {sp : SpE} {ddv : List D} {gD : List D → List D → List D} {p pos apos : Pos} {o e : Expr} {es : List Expr} {kws : List Keyword} {to : TE3} {t tkw : TA3} {w : WE3} {pl : Sem Bool}
theorem le_callE (c : CalE X.prog X.w X.K X.mg X.base x k sp ddv) (hr : Room k X.A) (tk : L2N.Takes X (wE X.K B w)) (ha : LA X B (e :: es) t) (hg : Gl X x := by rfl) (hdb : (x == ("__debug__" : Str)) = false := by decide)
    (he : starEach (e :: es) X.env = (false, eval e X.env) :: starEach es X.env := by rfl) (hpl : (backTo pos (starEach es X.env)).any (·.1) = false := by rfl) : LE X B (.Call (.Name x p) (e :: es) [] pos) (lCallE sp ddv w t) := by
  obtain ⟨f, fd, ps, dvs, ds, hm, hk, F, hb, hd, hv⟩ := c.ex
  exact (pe_callSD (E := fun σ => WE (wE X.K B w) σ) F hr hg hm hk hb hd (fun σ => L2N.passAt tk σ) ha hdb he hpl).imp fun σ H Q ⟨Fz, tv, τ, G, Q3, hB, r, ht, kk⟩ => embA.mk hB r ht fun vs H1 Fz1 ds G1 rs r1 h1 =>
    lowE_of hB r1 (rs.append (hv _ _)) h1 kk
theorem le_methE (M : CalME X.prog X.w X.K X.mg X.base C m k sp ddv) (hr : Room k X.A) (tk : L2N.Takes X (wE X.K B w)) (ho : LE X B o to) (ha : LA X B (e :: es) t)
    (hst : starEach (e :: es) X.env = (false, eval e X.env) :: starEach es X.env := by rfl) (hpl : (backTo pos (starEach es X.env)).any (·.1) = false := by rfl)
    (ht : eval (.Call (.Attribute o m apos) (e :: es) [] pos) X.env = (do
      let ov ← eval o X.env
      standAt apos.atName
      let (f, first) ← holding [ov] (getMethod ov m pl)
      callWith pos f first (backTo pos (starEach (e :: es) X.env)) (backToKw pos (keywordEach [] X.env))) := by rfl) : LE X B (.Call (.Attribute o m apos) (e :: es) [] pos) (lMethE C m sp ddv w to t) := by
  obtain ⟨f, fd, ps, dvs, ds, hm, F, hb, hd, hv⟩ := M.ex
  exact (pe_methSD (E := fun σ => WE (wE X.K B w) σ) ho M.cls hm F hr hb hd (fun σ => L2N.passAt tk σ) ha hst hpl ht).imp fun σ H Q ⟨Fz, tv, τ, G, Q3, hB, r, ht, kk⟩ => emb.mk hB r ht fun v H1 Fz1 d G1 r1 ⟨fs, e1, l, q⟩ => by
    obtain ⟨a, dx, vs, rfl, h1, rk⟩ := ins_at r1.hr r1.h1 e1
    refine ⟨a, dx, vs, rfl, h1, (rk.lookup m).2 l, embA.mk (subB hB) r1 q fun vs H2 Fz2 ds G2 rs r2 h2 => ?_⟩
    exact lowE_of (vs := .ref a :: (vs ++ dvs)) (ds := d :: (ds ++ ddv)) hB r2.tl (.cons r2.h1 (rs.append (hv _ _))) h2 kk
theorem le_methE0 (M : CalME X.prog X.w X.K X.mg X.base C m k sp ddv) (hr : Room k X.A) (tk : L2N.Takes X (wE X.K B w)) (ho : LE X B o to)
    (ht : eval (.Call (.Attribute o m apos) [] [] pos) X.env = (do
      let ov ← eval o X.env
      standAt apos.atName
      let (f, first) ← holding [ov] (getMethod ov m pl)
      callWith pos f first (backTo pos (starEach [] X.env)) (backToKw pos (keywordEach [] X.env))) := by rfl) : LE X B (.Call (.Attribute o m apos) [] [] pos) (lMethE C m sp ddv w to lNil) := by
  obtain ⟨f, fd, ps, dvs, ds, hm, F, hb, hd, hv⟩ := M.ex
  exact (pe_methSD0 (E := fun σ => WE (wE X.K B w) σ) ho M.cls hm F hr hb hd (fun σ => L2N.passAt tk σ) ht).imp fun σ H Q ⟨Fz, tv, τ, G, Q3, hB, r, ht, kk⟩ => emb.mk hB r ht fun v H1 Fz1 d G1 r1 ⟨fs, e1, l, q⟩ => by
    obtain ⟨a, dx, vs, rfl, h1, rk⟩ := ins_at r1.hr r1.h1 e1
    refine ⟨a, dx, vs, rfl, h1, (rk.lookup m).2 l, ?_⟩
    exact lowE_of (vs := .ref a :: ([] ++ dvs)) (ds := d :: ([] ++ ddv)) hB r1.tl (.cons r1.h1 (Reps.append .nil (hv _ _))) q kk
theorem le_methN (M : CalMN X.prog X.w X.K X.mg X.base C m k n ks sp gD) (hr : Room k X.A) (tk : L2N.Takes X (wE X.K B w)) (ho : LE X B o to) (ha : LA X B (e :: es) t) (hkw : LK X B kws tkw)
    (hall : (backToKw pos (keywordEach kws X.env)).all (·.1.isSome) = true := by rfl) (hks : (backToKw pos (keywordEach kws X.env)).filterMap (·.1) = ks := by rfl) (hst : starEach (e :: es) X.env = (false, eval e X.env) :: starEach es X.env := by rfl)
    (hpl : ((backTo pos (starEach (e :: es) X.env)).any (·.1) || (backToKw pos (keywordEach kws X.env)).any (·.1.isNone)) = false := by rfl)
    (ht : eval (.Call (.Attribute o m apos) (e :: es) kws pos) X.env = (do
      let ov ← eval o X.env
      standAt apos.atName
      let (f, first) ← holding [ov] (getMethod ov m pl)
      callWith pos f first (backTo pos (starEach (e :: es) X.env)) (backToKw pos (keywordEach kws X.env))) := by rfl) : LE X B (.Call (.Attribute o m apos) (e :: es) kws pos) (lMethN C m n ks.length sp gD w to t tkw) := by
  obtain ⟨f, fd, ps, g, gV, hm, F, hb, hg⟩ := M.ex
  exact (pe_methSN (E := fun σ => WE (wE X.K B w) σ) ho M.cls hm F hr hb (fun σ => L2N.passAt tk σ) ha hkw hall hks hst hpl ht).imp fun σ H Q ⟨Fz, tv, τ, G, Q3, hB, r, ht, kk⟩ => emb.mk hB r ht fun v H1 Fz1 d G1 r1 ⟨fs, e1, l, q⟩ => by
    obtain ⟨a, dx, vs, rfl, h1, rk⟩ := ins_at r1.hr r1.h1 e1
    refine ⟨a, dx, vs, rfl, h1, (rk.lookup m).2 l, embA.mk (subB hB) r1 q fun vs H2 Fz2 ds G2 rs r2 h2 => embA.mk (fun p hp => List.mem_append_right _ (subB hB p hp)) (r2.pushs rs) h2 fun zs H3 Fz3 es G3 rz r3 ⟨l1, l2, h3⟩ => ?_⟩
    have rs3 : Reps X.K Fz3 H3 vs ds := Reps.of_mem rs.len fun p hp => r3.tmp p (List.mem_append_left _ hp)
    have r4 := r3.sub fun p hp => List.mem_append_right (vs.zip ds) hp
    exact ⟨by rw [rs.len]; exact l1, by rw [rz.len]; exact l2, lowE_of hB r4.tl (hg (.cons r4.h1 rs3) rz) h3 kk⟩
theorem le_methN0 (M : CalMN X.prog X.w X.K X.mg X.base C m k n ks sp gD) (hr : Room k X.A) (tk : L2N.Takes X (wE X.K B w)) (ho : LE X B o to) (hkw : LK X B kws tkw)
    (hall : (backToKw pos (keywordEach kws X.env)).all (·.1.isSome) = true := by rfl) (hks : (backToKw pos (keywordEach kws X.env)).filterMap (·.1) = ks := by rfl)
    (hpl : ((backTo pos (starEach [] X.env)).any (·.1) || (backToKw pos (keywordEach kws X.env)).any (·.1.isNone)) = false := by rfl)
    (ht : eval (.Call (.Attribute o m apos) [] kws pos) X.env = (do
      let ov ← eval o X.env
      standAt apos.atName
      let (f, first) ← holding [ov] (getMethod ov m pl)
      callWith pos f first (backTo pos (starEach [] X.env)) (backToKw pos (keywordEach kws X.env))) := by rfl) : LE X B (.Call (.Attribute o m apos) [] kws pos) (lMethN C m n ks.length sp gD w to lNil tkw) := by
  obtain ⟨f, fd, ps, g, gV, hm, F, hb, hg⟩ := M.ex
  exact (pe_methSN0 (E := fun σ => WE (wE X.K B w) σ) ho M.cls hm F hr hb (fun σ => L2N.passAt tk σ) hkw hall hks hpl ht).imp fun σ H Q ⟨Fz, tv, τ, G, Q3, hB, r, ht, kk⟩ => emb.mk hB r ht fun v H1 Fz1 d G1 r1 ⟨fs, e1, l, q⟩ => by
    obtain ⟨a, dx, vs, rfl, h1, rk⟩ := ins_at r1.hr r1.h1 e1
    exact ⟨a, dx, vs, rfl, h1, (rk.lookup m).2 l, embA.mk (subB hB) r1 q fun zs H3 Fz3 es G3 rz r3 ⟨l1, l2, h3⟩ => ⟨l1, by rw [rz.len]; exact l2, lowE_of hB r3.tl (hg (.cons r3.h1 .nil) rz) h3 kk⟩⟩
/-- raise C() in a def that raises with fields -/
def sRaise0 (C : Addr) (w : WE3) : TS3 := fun _ τ G => w C none τ G
theorem ls_raise0 {pos' : Pos} (hc : X.calm = true) (tk : L2N.Takes X (wE X.K B w)) (O : OwnX X x C) (hg : Gl X x := by rfl) (hdb : (x == ("__debug__" : Str)) = false := by decide) : LS X B (.Raise (some (.Call (.Name x p) [] [] pos)) none pos') (sRaise0 C w) :=
  (L2N.ps_raise hc tk (pmk_ownN O hg hdb)).imp fun D σ H ⟨Fz, tv, τ, G, D3, hB, r, ht, k⟩ => ⟨C, Fz, τ, G, rfl, r.sub hB, ht⟩
end
/-! ### a lambda's body by rules that ask what is wished of what is raised -/
theorem pe_lam_of {X : Cx} {A : Around} {outer : List Env} {s : Shared} {H : Hp} {E : XK} {scope : Scope} {f0 c' : Addr} {e : Expr} {t : W0 → TE3}
    (h : ∀ (B : BT) (w : W0), L2N.Takes (lamN X A outer s H E scope f0 c') (wE (lamN X A outer s H E scope f0 c').K B fun C d _ G' => w C d G') → LE (lamN X A outer s H E scope f0 c') B e (t w)) :
    PE (lamN X A outer s H E scope f0 c') e (embX X.K t E) := by
  refine ⟨fun pins s1 σ H1 Q I ⟨Fz, tv, τ, G, Q3, w, r, ht, kq, kw⟩ => ?_⟩
  have tk : L2N.Takes (lamN X A outer s H E scope f0 c') (wE (lamN X A outer s H E scope f0 c').K (slotsL σ τ ++ tv) fun C d _ G' => w C d G') := takes_lamN.imp fun cls d σ' H' ⟨C, Fz', τ', G', ec, r', hw⟩ => by
    subst ec
    exact kw C d H' Fz' G' r'.hr (fun p hp => r'.tmp p hp) hw
  have rr : Rel X.K (slotsL σ τ ++ tv) τ G Fz σ H1 := ⟨r.len, r.slot, fun p hp => (List.mem_append.mp hp).elim (r.slots_rep p) (r.tmp p), r.hr⟩
  exact (h _ w tk).run pins s1 σ H1 Q I ⟨Fz, slotsL σ τ ++ tv, τ, G, Q3, fun p hp => hp, rr, ht, fun v H' ⟨Fz', d, G', r', q⟩ => kq v H' ⟨Fz', d, G', r'.sub fun p hp => (List.mem_cons.mp hp).elim (fun z => by rw [z]; exact List.mem_cons_self) fun z => List.mem_cons_of_mem _ (List.mem_append_right _ z), q⟩⟩
end L3
end

section
set_option Elab.async false
set_option linter.all false
set_option maxRecDepth 100000
set_option maxHeartbeats 4000000
/-! L3lv: walks over lists that may change, and do not change meanwhile. -/
namespace L3
open PySem PySem.Spec PyProof.Rows L2
/-- the walk J yields the data ds, in turn, while tv stands and P holds of the things -/
structure SimsP (K : PySem.W.Frag) (tv : BT) (J : It) (ds : List D) (P : Gp → Prop) : Prop where
  go : ∀ {i τ G Fz σ H}, Rel K tv τ G Fz σ H → P G → i < ds.length → J.go i H
  stop : ∀ {i τ G Fz σ H}, Rel K tv τ G Fz σ H → P G → ds.length ≤ i → J.stop i H
  yld : ∀ {i τ G Fz σ H x H' d}, Rel K tv τ G Fz σ H → P G → ds[i]? = some d → J.yld i H x H' → ∃ Fz', Rel K ((x, d) :: tv) τ G Fz' σ H'
theorem SimsP.mono {K : PySem.W.Frag} {tv tv' : BT} {J : It} {ds : List D} {P : Gp → Prop} (S : SimsP K tv J ds P) (h : ∀ p ∈ tv, p ∈ tv') : SimsP K tv' J ds P where
  go := fun r hP hi => S.go (r.sub h) hP hi
  stop := fun r hP hi => S.stop (r.sub h) hP hi
  yld := fun {i τ G Fz σ H x H' d} r hP hd y => by
    have r1 : Rel K tv (τ ++ tv'.map fun p => some p.2) G Fz (σ ++ tv'.map fun p => some p.1) H := by
      refine ⟨by simp [r.len], fun j e he => ?_, (r.sub h).tmp, r.hr⟩
      by_cases hj : j < τ.length
      · rw [List.getElem?_append_left hj] at he
        obtain ⟨v, hv, rv⟩ := r.slot j e he
        exact ⟨v, by rw [List.getElem?_append_left (by rw [r.len]; exact hj)]; exact hv, rv⟩
      · rw [List.getElem?_append_right (by omega), List.getElem?_map] at he
        cases e2 : tv'[j - τ.length]? with
        | none => rw [e2] at he; cases he
        | some p =>
          rw [e2] at he
          cases he
          exact ⟨p.1, by rw [List.getElem?_append_right (by rw [r.len]; omega), List.getElem?_map, r.len, e2]; rfl, r.tmp _ (List.mem_of_getElem? e2)⟩
    obtain ⟨Fz', q⟩ := S.yld r1 hP hd y
    refine ⟨Fz', ⟨r.len, fun j e he => ?_, fun p hp => ?_, q.hr⟩⟩
    · have hj : j < τ.length := (List.getElem?_eq_some_iff.mp he).1
      obtain ⟨v, hv, rv⟩ := q.slot j e (by rw [List.getElem?_append_left hj]; exact he)
      rw [List.getElem?_append_left (by rw [r.len]; exact hj)] at hv
      exact ⟨v, hv, rv⟩
    · rcases List.mem_cons.mp hp with e | hp
      · exact q.tmp _ (by rw [e]; exact List.mem_cons_self)
      · obtain ⟨j, hj⟩ := List.mem_iff_getElem?.mp hp
        obtain ⟨v, hv, rv⟩ := q.slot (τ.length + j) p.2 (by rw [List.getElem?_append_right (by omega), List.getElem?_map, Nat.add_sub_cancel_left, hj]; rfl)
        rw [List.getElem?_append_right (by rw [r.len]; omega), List.getElem?_map, r.len, Nat.add_sub_cancel_left, hj] at hv
        cases hv
        exact rv
theorem Sims.live {K : PySem.W.Frag} {tv : BT} {J : It} {ds : List D} (S : Sims K tv J ds) (P : Gp → Prop) : SimsP K tv J ds P := ⟨fun r _ h => S.go r h, fun r _ h => S.stop r h, fun r _ h y => S.yld r h y⟩
abbrev TIP := T3 → Gp → (List D → (Gp → Prop) → Gp → Prop) → Prop
def embIP (K : PySem.W.Frag) (B : BT) (t : TIP) : TI := fun σ H R => ∃ Fz tv τ G R3, (∀ p ∈ B, p ∈ tv) ∧ Rel K tv τ G Fz σ H ∧ t τ G R3 ∧
  ∀ J H' Fz' tv' ds P G', (∀ p ∈ tv, p ∈ tv') → Rel K tv' τ G' Fz' σ H' → SimsP K tv' J ds P → R3 ds P G' → R J H'
abbrev LIP (X : Cx) (B : BT) (tg e : Expr) (t : TIP) : Prop := PI X tg e (embIP X.K B t)
/-- what stands still -/
def iStl (li : TI3) : TIP := fun τ G R => li τ G fun ds G1 => R ds (fun _ => True) G1
theorem lip_stl {X : Cx} {B : BT} {tg e : Expr} {li : TI3} (h : LI X B tg e li) : LIP X B tg e (iStl li) := h.imp fun σ H R ⟨Fz, tv, τ, G, R3, hB, r, ht, k⟩ =>
  ⟨Fz, tv, τ, G, _, hB, r, ht, fun J H' Fz' tv' ds G' sub r' S q => k J H' Fz' tv' ds _ G' sub r' (S.live _) q⟩
/-- lists, still or not -/
def iLive (te : TE3) : TIP := fun τ G R => te τ G fun d G1 => match lstOf G1 d with
  | some ds => R ds (fun G' => lstOf G' d = some ds) G1
  | none => False
def iEnumL (te : TE3) : TIP := fun τ G R => te τ G fun d G1 => match lstOf G1 d with
  | some ds => R (enL ds) (fun G' => lstOf G' d = some ds) G1
  | none => False
def iZipL (ta tb : TE3) : TIP := fun τ G R => ta τ G fun d G1 => tb τ G1 fun d2 G2 => match lstOf G2 d, lstOf G2 d2 with
  | some ds, some es => R (zpL ds es) (fun G' => lstOf G' d = some ds ∧ lstOf G' d2 = some es) G2
  | _, _ => False
section
variable {K : PySem.W.Frag}
theorem simsP_list {a : Addr} {d : D} {ds : List D} {tv : BT} (hm : (V.ref a, d) ∈ tv) : SimsP K tv (Itl K a) ds fun G => lstOf G d = some ds where
  go := fun {i τ G Fz σ H} r hP hi => by
    obtain ⟨b, vs, e, s, q⟩ := lst_at r.hr (r.tmp _ hm) hP
    cases e
    obtain ⟨v, hv, _⟩ := q.get (i := i) (d := ds[i]) (by simp [hi])
    exact ⟨vs, v, SqL.of s, hv⟩
  stop := fun {i τ G Fz σ H} r hP hi => by
    obtain ⟨b, vs, e, s, q⟩ := lst_at r.hr (r.tmp _ hm) hP
    cases e
    exact ⟨vs, SqL.of s, by rw [q.len]; exact hi⟩
  yld := fun {i τ G Fz σ H x H' d'} r hP hd y => by
    obtain ⟨rfl, y⟩ := y
    obtain ⟨b, vs, e, s, q⟩ := lst_at r.hr (r.tmp _ hm) hP
    cases e
    exact ⟨Fz, r.push (q.at_ i _ _ (y vs (SqL.of s)) hd)⟩
theorem simsP_enum {a : Addr} {d : D} {ds : List D} {tv : BT} (hm : (V.ref a, d) ∈ tv) : SimsP K tv (Ite K a) (enL ds) fun G => lstOf G d = some ds where
  go := fun {i τ G Fz σ H} r hP hi => by
    rw [enL_len] at hi
    obtain ⟨b, vs, e, s, q⟩ := lst_at r.hr (r.tmp _ hm) hP
    cases e
    obtain ⟨v, hv, _⟩ := q.get (i := i) (d := ds[i]) (by simp [hi])
    exact ⟨vs, v, SqL.of s, hv⟩
  stop := fun {i τ G Fz σ H} r hP hi => by
    rw [enL_len] at hi
    obtain ⟨b, vs, e, s, q⟩ := lst_at r.hr (r.tmp _ hm) hP
    cases e
    exact ⟨vs, SqL.of s, by rw [q.len]; exact hi⟩
  yld := fun {i τ G Fz σ H x H' d'} r hP hd y => by
    obtain ⟨T, x, rfl, hT, rfl, y⟩ := y
    obtain ⟨b, vs, e, s, q⟩ := lst_at r.hr (r.tmp _ hm) hP
    cases e
    have hi : i < ds.length := by have := (List.getElem?_eq_some_iff.mp hd).1; rwa [enL_len] at this
    have hg : ds[i]? = some ds[i] := by simp [hi]
    rw [enL_get hg] at hd
    cases hd
    have rx := q.at_ i _ _ (y vs (SqL.of s)) hg
    exact ⟨_, (r.new hT).push (Rep.mk_tup Rel.stl (.cons (.int _) (.one (rx.ext (r.ext1 hT)))))⟩
theorem simsP_zip {a b : Addr} {d d2 : D} {ds es : List D} {tv : BT} (hm : (V.ref a, d) ∈ tv) (hm' : (V.ref b, d2) ∈ tv) : SimsP K tv (Itz K a b) (zpL ds es) fun G => lstOf G d = some ds ∧ lstOf G d2 = some es where
  go := fun {i τ G Fz σ H} r hP hi => by
    rw [zpL_len] at hi
    obtain ⟨_, vs, e, s, q⟩ := lst_at r.hr (r.tmp _ hm) hP.1
    cases e
    obtain ⟨_, vs', e, s', q'⟩ := lst_at r.hr (r.tmp _ hm') hP.2
    cases e
    obtain ⟨v, hv, _⟩ := q.get (i := i) (d := ds[i]'(by omega)) (by simp)
    obtain ⟨v', hv', _⟩ := q'.get (i := i) (d := es[i]'(by omega)) (by simp)
    exact ⟨vs, vs', v, v', SqL.of s, SqL.of s', hv, hv'⟩
  stop := fun {i τ G Fz σ H} r hP hi => by
    rw [zpL_len] at hi
    obtain ⟨_, vs, e, s, q⟩ := lst_at r.hr (r.tmp _ hm) hP.1
    cases e
    obtain ⟨_, vs', e, s', q'⟩ := lst_at r.hr (r.tmp _ hm') hP.2
    cases e
    exact ⟨vs, vs', SqL.of s, SqL.of s', by rw [q.len, q'.len]; omega⟩
  yld := fun {i τ G Fz σ H x H' d'} r hP hd y => by
    obtain ⟨T, x, x', rfl, hT, rfl, y, y'⟩ := y
    obtain ⟨_, vs, e, s, q⟩ := lst_at r.hr (r.tmp _ hm) hP.1
    cases e
    obtain ⟨_, vs', e, s', q'⟩ := lst_at r.hr (r.tmp _ hm') hP.2
    cases e
    have hi : i < min ds.length es.length := by have := (List.getElem?_eq_some_iff.mp hd).1; rwa [zpL_len] at this
    have hg : ds[i]? = some (ds[i]'(by omega)) := by simp
    have hg' : es[i]? = some (es[i]'(by omega)) := by simp
    rw [zpL_get hg hg'] at hd
    cases hd
    have rx := q.at_ i _ _ (y vs (SqL.of s)) hg
    have rx' := q'.at_ i _ _ (y' vs' (SqL.of s')) hg'
    exact ⟨_, (r.new hT).push (Rep.mk_tup Rel.stl (.cons (rx.ext (r.ext1 hT)) (.one (rx'.ext (r.ext1 hT)))))⟩
end
section
variable {X : Cx} {B : BT} {tg e e2 : Expr} {te te2 : TE3} {p pos tpos : Pos} {elts : List Expr} {kk : Nat}
theorem lip_list (h : LE X B e te) : LIP X B tg e (iLive te) := (pi_list h).imp fun σ H R ⟨Fz, tv, τ, G, R3, hB, r, ht, k⟩ => emb.mk hB r ht fun v H1 Fz1 d G1 r1 h1 => by
  cases q : lstOf G1 d with
  | none => rw [q] at h1; exact h1.elim
  | some ds =>
    rw [q] at h1
    obtain ⟨a, vs, rfl, s, _⟩ := lst_at r1.hr r1.h1 q
    exact ⟨a, rfl, ⟨vs, SqL.of s⟩, k _ H1 Fz1 _ ds _ G1 (fun p hp => List.mem_cons_of_mem _ hp) r1 (simsP_list List.mem_cons_self) h1⟩
theorem lip_enum (hg : Gl X "enumerate") (hm : X.mg "enumerate" = none) (h : LE X B e te) (hs : starEach [e] X.env = [(false, eval e X.env)] := by rfl) (hs' : starEach [e] X.env = (false, eval e X.env) :: starEach [] X.env := by rfl) :
    LIP X B (.Tuple elts kk tpos) (.Call (.Name "enumerate" p) [e] [] pos) (iEnumL te) :=
  (pi_enum hg hm (pa_cons h pa_nil hs') hs).imp fun σ H R ⟨Fz, tv, τ, G, R3, hB, r, ht, k⟩ => emb.mk hB r ht fun v H1 Fz1 d G1 r1 h1 => by
    cases q : lstOf G1 d with
    | none => rw [q] at h1; exact h1.elim
    | some ds =>
      rw [q] at h1
      obtain ⟨a, vs, rfl, s, _⟩ := lst_at r1.hr r1.h1 q
      exact ⟨a, vs, rfl, SqL.of s, k _ H1 Fz1 _ _ _ G1 (fun p hp => List.mem_cons_of_mem _ hp) r1 (simsP_enum List.mem_cons_self) h1⟩
theorem lip_zip (hg : Gl X "zip") (hm : X.mg "zip" = none) (h : LE X B e te) (h2 : LE X B e2 te2)
    (hs : starEach [e, e2] X.env = (false, eval e X.env) :: starEach [e2] X.env := by rfl) (hpl : (backTo pos (starEach [e2] X.env)).any (·.1) = false := by rfl) (hs2' : starEach [e2] X.env = (false, eval e2 X.env) :: starEach [] X.env := by rfl) :
    LIP X B (.Tuple elts kk tpos) (.Call (.Name "zip" p) [e, e2] [] pos) (iZipL te te2) :=
  (pi_zip hg hm (pa_cons h (pa_cons h2 pa_nil hs2') hs) hs hpl).imp fun σ H R ⟨Fz, tv, τ, G, R3, hB, r, ht, k⟩ => emb.mk hB r ht fun v H1 Fz1 d G1 r1 h1 => emb.mk (subB hB) r1 h1 fun u H2 Fz2 d2 G2 r2 h2 => by
    cases q1 : lstOf G2 d with
    | none => rw [q1] at h2; exact h2.elim
    | some ds => cases q2 : lstOf G2 d2 with
      | none => rw [q1, q2] at h2; exact h2.elim
      | some es =>
        rw [q1, q2] at h2
        obtain ⟨a, vs, rfl, s, _⟩ := lst_at r2.hr r2.h2 q1
        obtain ⟨b, ws, rfl, s', _⟩ := lst_at r2.hr r2.h1 q2
        exact ⟨a, b, vs, ws, rfl, SqL.of s, SqL.of s', k _ H2 Fz2 _ _ _ G2 (fun p hp => List.mem_cons_of_mem _ (List.mem_cons_of_mem _ hp)) r2 (simsP_zip (List.mem_cons_of_mem _ List.mem_cons_self) List.mem_cons_self) h2⟩
/-! ### for, comprehensions -/
def sForP (li : TIP) (g : TG3) (tb : TS3) : TS3 := fun D τ G => li τ G fun ds P G1 => ∃ W : Nat → T3 → Gp → Prop, W 0 τ G1 ∧ (∀ i τ G, W i τ G → P G) ∧ (∀ i d τ G, ds[i]? = some d → W i τ G → g d τ G fun τ2 G2 => tb { D with nx := W (i + 1), ct := W (i + 1), bk := D.nx } τ2 G2) ∧ ∀ τ G, W ds.length τ G → D.nx τ G
theorem ls_forP {li : TIP} {g : TG3} {tb : TS3} {ms : List Nat} {body : List Stmt} (hc : X.calm = true) (hi : LIP X B tg e li) (hg : LG X B ms tg g) (hb : LB X B body tb) (hp : PassesOwn (model X.prog X.w) X.A X.env X.xe := by exact PassesOwn.never)
    (hs : ∀ x, foldedSetIterable e X.env x = pure x := by intro _; rfl) : LS X B (.For tg e body [] pos) (sForP li g tb) :=
  (ps_for hp hc hi hg hb hs).imp fun D σ H ⟨Fz, tv, τ, G, D3, hB, r, ht, k⟩ => ⟨Fz, tv, τ, G, _, hB, r, ht, fun J H1 Fz1 tv1 ds P G1 hsub r1 S h1 => by
    obtain ⟨W, w0, wP, step, done⟩ := h1
    refine ⟨fun i m σ H => m = ds.length - i ∧ i ≤ ds.length ∧ ∃ Fz τ G, Rel X.K tv1 τ G Fz σ H ∧ W i τ G, ⟨ds.length, by simp, Nat.zero_le _, Fz1, τ, G1, r1, w0⟩, ?_⟩
    rintro i m σ H ⟨rfl, hi, Fz2, τ2, G2, r2, w2⟩
    by_cases hlt : i < ds.length
    · refine .inr ⟨S.go r2 (wP _ _ _ w2) hlt, fun σ' H' => ∃ Fz τ G, Rel X.K tv1 τ G Fz σ' H' ∧ W (i + 1) τ G, fun σ' H' p' => ⟨ds.length - (i + 1), by omega, rfl, hlt, p'⟩, fun x H' y => ?_⟩
      have hd : ds[i]? = some ds[i] := by simp [hlt]
      obtain ⟨Fz3, r3⟩ := S.yld r2 (wP _ _ _ w2) hd y
      refine ⟨Fz3, tv1, τ2, G2, ds[i], _, fun p hp => hsub p (hB p hp), r3.tl, r3.h1, step i _ τ2 G2 hd w2, fun σ' τ' G' Fz' H' o' r' q => ?_⟩
      exact ⟨Fz', tv1, τ', G', _, fun p hp => hsub p (hB p hp), r', q, ⟨fun σ' τ' G' Fz' H' r' q => ⟨Fz', τ', G', r', q⟩, fun d G' v H' Fz' σ' τ' r' q => k.rt d G' v H' Fz' σ' τ' (r'.sub fun p hp => by
          rcases List.mem_cons.mp hp with h | h
          · rw [h]; exact List.mem_cons_self
          · exact List.mem_cons_of_mem _ (hsub p h)) q,
        fun σ' τ' G' Fz' H' r' q => k.nx σ' τ' G' Fz' H' (r'.sub hsub) q, fun σ' τ' G' Fz' H' r' q => ⟨Fz', τ', G', r', q⟩⟩⟩
    · have e : i = ds.length := by omega
      subst e
      exact .inl ⟨S.stop r2 (wP _ _ _ w2) (Nat.le_refl _), k.nx σ τ2 G2 Fz2 H (r2.sub hsub) (done τ2 G2 w2)⟩⟩
def lLcP (li : TIP) (g : TG3) (tt : TT3) (te : TE3) (vs : List Nat) : TE3 := fun τ G Q => li τ G fun ds P G1 => ∀ p, G1 p = none → ∃ W : Nat → List D → Gp → Prop, W 0 [] (gup G1 p (.lst [])) ∧ (∀ i acc G, W i acc G → P G) ∧
  (∀ i d acc G, ds[i]? = some d → W i acc G → g d (wipe3 τ vs) G fun τ2 G2 => tt τ2 G2 fun b G3 => if b = true then te τ2 G3 fun y G4 => G4 p = some (.lst acc) ∧ acc.length < sizeLine ∧ W (i + 1) (acc ++ [y]) (gup G4 p (.lst (acc ++ [y]))) else W (i + 1) acc G3) ∧
  ∀ acc G, W ds.length acc G → G p = some (.lst acc) ∧ Q (.lst acc) (gdel G p)
theorem tLcP_of {li : TIP} {g : TG3} {tt : TT3} {te : TE3} {vs ms : List Nat} (hms : ∀ i ∈ ms, i ∈ vs) {σ : L2.St} {H : Hp} {Q : VK} (h : emb X.K B (lLcP li g tt te vs) σ H Q) :
    tLc (embIP X.K B li) (embG X.K B ms g) (embT X.K B tt) (emb X.K B te) vs σ H Q := by
  obtain ⟨Fz, tv, τ, G, Q3, hB, r, ht, k⟩ := h
  refine ⟨Fz, tv, τ, G, _, hB, r, ht, fun J H1 Fz1 tv1 ds P G1 hsub r1 S h1 L hL => ?_⟩
  obtain ⟨W, w0, wP, step, done⟩ := h1 L (r1.hr.free hL)
  have r0 := r1.ext (Ext.newG r1.hr hL) (r1.hr.newG (g := .lst []) hL ⟨[], upd_same, .nil⟩)
  let tvx := slotsL σ τ ++ tv1
  refine ⟨fun i m H => m = ds.length - i ∧ i ≤ ds.length ∧ ∃ acc Fz G, HRel X.K Fz H G ∧ (∀ p ∈ tvx, Rep X.K Fz H p.1 p.2) ∧ W i acc G,
    ⟨ds.length, by simp, Nat.zero_le _, [], _, _, r0.hr, fun p hp => (List.mem_append.mp hp).elim (r0.slots_rep p) (r0.tmp p), w0⟩, ?_⟩
  rintro i m H ⟨rfl, hi, acc, Fz2, G2, hr2, hx2, w2⟩
  have hS : Rel X.K tvx τ G2 Fz2 σ H := r1.again hr2 (fun p hp => hx2 p (List.mem_append_left _ hp)) (fun p hp => hx2 p (List.mem_append_right _ hp)) |>.slots r1.len (fun i d e => by
    obtain ⟨v, hv, _⟩ := r1.slot i d e
    exact ⟨v, hv, hx2 _ (List.mem_append_left _ (slots_in hv e))⟩) |> fun z => ⟨z.len, z.slot, hx2, hr2⟩
  have Sx := S.mono (tv' := tvx) fun p hp => List.mem_append_right _ hp
  have hBx : ∀ p ∈ B, p ∈ tvx := fun p hp => List.mem_append_right _ (hsub p (hB p hp))
  by_cases hlt : i < ds.length
  · refine .inr ⟨Sx.go hS (wP _ _ _ w2) hlt, fun H' => ∃ acc Fz G, HRel X.K Fz H' G ∧ (∀ p ∈ tvx, Rep X.K Fz H' p.1 p.2) ∧ W (i + 1) acc G, fun H' p' => ⟨ds.length - (i + 1), by omega, rfl, hlt, p'⟩, fun x H' y => ?_⟩
    have hd : ds[i]? = some ds[i] := by simp [hlt]
    obtain ⟨Fz3, r3⟩ := Sx.yld hS (wP _ _ _ w2) hd y
    refine ⟨Fz3, tvx, wipe3 τ vs, G2, ds[i], _, hBx, r3.tl.wiped vs, r3.h1, step i _ acc G2 hd w2, fun σ' τ' G' Fz' H' o' r' q => ⟨wipe_out3 o' hms, ?_⟩⟩
    refine embT.mk hBx r' q fun b H4 Fz4 G4 r4 q4 => ?_
    cases b with
    | true =>
      simp only [if_true] at q4 ⊢
      refine emb.mk hBx r4 q4 fun v H5 Fz5 d G5 r5 q5 => ?_
      obtain ⟨e1, e2, e3⟩ := q5
      obtain ⟨_, ws, h1, h2⟩ := r5.hr.go _ _ e1
      have hl : ws.length = acc.length := h2.len
      have hr6 := r5.hr.wr (o := .lst (ws ++ [v])) (g := .lst (acc ++ [d])) e1 ⟨_, upd_same, (h2.append (.one r5.h1)).ext (Ext.wr r5.hr e1)⟩
      exact ⟨ws, h1, by rw [hl]; exact e2, _, Fz5, _, hr6, fun p hp => (r5.tl.tmp p hp).ext (Ext.wr r5.hr e1), e3⟩
    | false =>
      simp only [Bool.false_eq_true, if_false] at q4 ⊢
      exact ⟨acc, Fz4, G4, r4.hr, r4.tmp, q4⟩
  · have e : i = ds.length := by omega
    subst e
    obtain ⟨e1, e2⟩ := done acc G2 w2
    refine .inl ⟨Sx.stop hS (wP _ _ _ w2) (Nat.le_refl _), ?_⟩
    have r4 : Rel X.K tv τ (gdel G2 L) (fzup Fz2 L) σ H := (hS.sub fun p hp => List.mem_append_right _ (hsub p hp)).ext Ext.frz (hS.hr.frz e1)
    exact k _ H (.mk r4 ((frz_rep hS.hr).1 acc e1) e2)
theorem le_lcP {elt : Expr} {ifs : List Expr} {scope : Scope} {li : TIP} {g : TG3} {tt : TT3} {te : TE3} {ms : List Nat} (own : List (Str × Nat)) (hc : X.calm = true) (hN : X.N.Nodup) (hi : LIP X B tg e li) (ok : BlkOk X.N X.env.scope scope own)
    (hg : ∀ (s : Shared) (H : Hp) (C : Addr) (cl : List (Str × Addr)) (fp : List Addr), LG (X.blk s H scope (compEnvC scope cl C X.env) fp) B ms tg g) (ht : ∀ (s : Shared) (H : Hp) (C : Addr) (cl : List (Str × Addr)) (fp : List Addr), LTs (X.blk s H scope (compEnvC scope cl C X.env) fp) B ifs tt)
    (he : ∀ (s : Shared) (H : Hp) (C : Addr) (cl : List (Str × Addr)) (fp : List Addr), LE (X.blk s H scope (compEnvC scope cl C X.env) fp) B elt te) (hms : ∀ i ∈ ms, i ∈ own.map (·.2) := by decide) (hs : ∀ x, foldedSetIterable e X.env x = pure x := by intro _; rfl) :
    LE X B (.ListComp elt [⟨tg, e, ifs, 0⟩] scope pos) (lLcP li g tt te (own.map (·.2))) :=
  (pe_lc hc hN hi ok hg (fun s H C cl fp => (ht s H C cl fp).run) he hs).imp fun _ _ _ h => tLcP_of hms h
end
end L3
end

section
set_option Elab.async false
set_option linter.all false
set_option maxRecDepth 100000
set_option maxHeartbeats 4000000
/-! L3dt: more of dicts; a field as a target. -/
namespace L3
open PySem PySem.Spec PyProof.Rows L2
def dropKD (kvs : List (Key × D)) (k : Key) : List (Key × D) := kvs.filter fun kv => decide (kv.1 ≠ k)
/-- k in d -/
def lDIn (neg : Bool) (ty td : TE3) : TE3 := fun τ G Q => ty τ G fun y G1 => td τ G1 fun d G2 => match dicOf G2 d, keyD y with
  | some kvs, some k => Q (.bl (xor neg (valD kvs k).isSome)) G2
  | _, _ => False
/-- d[k], there -/
def lDIx (td ty : TE3) : TE3 := fun τ G Q => td τ G fun d G1 => ty τ G1 fun y G2 => match dicOf G2 d, keyD y with
  | some kvs, some k => ∃ v, valD kvs k = some v ∧ Q v G2
  | _, _ => False
/-- d.pop(k), there -/
def lDPop1 (td ty : TE3) : TE3 := fun τ G Q => td τ G fun d G1 => ∃ p kvs0, d = .ref p ∧ G1 p = some (.dic kvs0) ∧ ty τ G1 fun y G2 => match G2 p, keyD y with
  | some (.dic kvs), some k => ∃ v, valD kvs k = some v ∧ Q v (gup G2 p (.dic (dropKD kvs k)))
  | _, _ => False
/-- d[k] = .. -/
def gDSub (to ti : TE3) : TG3 := fun y τ G Q => to τ G fun o G1 => ti τ G1 fun i G2 => match o with
  | .ref p => (match G2 p, keyD i with
    | some (.dic kvs), some k => kvs.length < sizeLine ∧ Q τ (gup G2 p (.dic (putKD kvs k y)))
    | _, _ => False)
  | _ => False
/-- dict(d) -/
def rDCopy3 : RC3 := fun ds G Q => match ds with
  | [d] => (match dicOf G d with
    | some kvs => ∀ p, G p = none → Q (.ref p) (gup G p (.dic kvs))
    | none => False)
  | _ => False
/-- sorted(d), d's keys few texts -/
def rSortD3 : RC3 := fun ds G Q => match ds with
  | [d] => (match dicOf G d with
    | some kvs => ∃ ks : List Str, kvs.map (·.1) = ks.map Sum.inr ∧ ks.length < 64 ∧ ∀ ys, ys.Perm ks → sortedS ys = true → Q (.lst (ys.map .str)) G
    | none => False)
  | _ => False
/-- len(d) -/
def rLenD3 : RC3 := fun ds G Q => match ds with
  | [d] => (match dicOf G d with
    | some kvs => Q (.int kvs.length) G
    | none => False)
  | _ => False
/-- o.f = .., as a target -/
def gFld3 (K : PySem.W.Frag) (to : TE3) (f : Str) : TG3 := fun y τ G Q => to τ G fun x G2 => match x with
  | .ref p => (match G2 p with
    | some (.ins C fs) => Cls K C ∧ NoAttr K C f ∧ fs.length < 1000 ∧ Q τ (gup G2 p (.ins C (putD f y fs)))
    | _ => False)
  | _ => False
theorem RepKs.drop {K : PySem.W.Frag} {Fz : Addr → Prop} {H : Hp} (k : Key) : ∀ {ds : List (Key × D)} {vs : List (Key × V)}, RepKs K Fz H vs ds → RepKs K Fz H (dropK vs k) (dropKD ds k)
  | [], vs, r => by rw [r.inv_nil]; exact .nil
  | (k', d) :: ds, vs, r => by
    obtain ⟨v, ws, rfl, rv, rw'⟩ := r.inv_cons
    have ih := RepKs.drop k rw'
    unfold dropK dropKD at *
    rw [List.filter_cons, List.filter_cons]
    by_cases e : k' = k
    · simp only [e, ne_eq, not_true_eq_false, decide_false, Bool.false_eq_true, if_false]; exact ih
    · simp only [e, ne_eq, not_false_eq_true, decide_true, if_true]; exact .cons rv ih
section
variable {X : Cx} {B : BT} {o i e f : Expr} {apos cpos pos : Pos} {td ty to ti : TE3}
theorem dget_at {K : PySem.W.Frag} {Fz : Addr → Prop} {H : Hp} {G : Gp} {v u : V} {d y : D} {kvs : List (Key × D)} {k : Key} (h : HRel K Fz H G) (r : Rep K Fz H v d) (ry : Rep K Fz H u y) (e1 : dicOf G d = some kvs) (e2 : keyD y = some k) :
    ∃ a vs, v = .ref a ∧ RepKs K Fz H vs kvs ∧ H a = some (.dK vs) ∧ DGet H a u (valV vs k) := by
  obtain ⟨a, vs, rfl, hH, rk⟩ := dic_at h r e1
  exact ⟨a, vs, rfl, rk, hH, .inl ⟨vs, k, .inl hH, keyD_rep ry e2, rfl⟩⟩
theorem val_some {K : PySem.W.Frag} {Fz : Addr → Prop} {H : Hp} {vs : List (Key × V)} {kvs : List (Key × D)} (rk : RepKs K Fz H vs kvs) (k : Key) : (valV vs k).isSome = (valD kvs k).isSome := by
  obtain ⟨i1, i2⟩ := rk.val k
  cases q : valD kvs k with
  | none => rw [i2 q]; rfl
  | some d =>
    obtain ⟨v, hv, _⟩ := i1 d q
    rw [hv]; rfl
theorem le_din (hu : X.A.units + 1 < cLine) (hi : LE X B i ty) (ho : LE X B o td) (h1 : behindInMarks .In o = false := by first | exact nobehind _ (by decide) (by decide) | rfl) : LE X B (.Compare i [.In] [o] pos) (lDIn false ty td) :=
  (pe_cmp (pc_din hu hi ho) h1).imp fun σ H Q ⟨Fz, tv, τ, G, Q3, hB, r, ht, k⟩ => emb.mk hB r ht fun u H1 Fz1 y G1 r1 h1 => emb.mk (subB hB) r1 h1 fun v H2 Fz2 d G2 r2 h2 => by
    split at h2
    · rename_i kvs kk e1 e2
      obtain ⟨a, vs, rfl, rk, hH, g⟩ := dget_at r2.hr r2.h1 r2.h2 e1 e2
      refine ⟨a, _, rfl, g, ?_⟩
      rw [val_some rk]
      rw [Bool.false_xor] at h2
      exact k _ H2 (.mk r2.tl.tl (.bl _) h2)
    · exact h2.elim
theorem lt_din (hu : X.A.units + 1 < cLine) (hi : LE X B i ty) (ho : LE X B o td) (h1 : behindInMarks .In o = false := by first | exact nobehind _ (by decide) (by decide) | rfl) : LT X B (.Compare i [.In] [o] pos) (lTest (lDIn false ty td)) :=
  (pt_cmp (pc_din hu hi ho) h1).imp fun σ H Q ⟨Fz, tv, τ, G, Q3, hB, r, ht, k⟩ => emb.mk hB r ht fun u H1 Fz1 y G1 r1 h1 => emb.mk (subB hB) r1 h1 fun v H2 Fz2 d G2 r2 h2 => by
    split at h2
    · rename_i kvs kk e1 e2
      obtain ⟨a, vs, rfl, rk, hH, g⟩ := dget_at r2.hr r2.h1 r2.h2 e1 e2
      refine ⟨a, _, rfl, g, _, rfl, ?_⟩
      rw [val_some rk]
      rw [Bool.false_xor] at h2
      exact k _ H2 ⟨Fz2, G2, r2.tl.tl, h2⟩
    · exact h2.elim
theorem le_dnin (hu : X.A.units + 1 < cLine) (hi : LE X B i ty) (ho : LE X B o td) (h1 : behindInMarks .NotIn o = false := by first | exact nobehind _ (by decide) (by decide) | rfl) : LE X B (.Compare i [.NotIn] [o] pos) (lDIn true ty td) :=
  (pe_cmp (pc_dnotin hu hi ho) h1).imp fun σ H Q ⟨Fz, tv, τ, G, Q3, hB, r, ht, k⟩ => emb.mk hB r ht fun u H1 Fz1 y G1 r1 h1 => emb.mk (subB hB) r1 h1 fun v H2 Fz2 d G2 r2 h2 => by
    split at h2
    · rename_i kvs kk e1 e2
      obtain ⟨a, vs, rfl, rk, hH, g⟩ := dget_at r2.hr r2.h1 r2.h2 e1 e2
      refine ⟨a, _, rfl, g, ?_⟩
      rw [val_some rk]
      rw [Bool.true_xor] at h2
      exact k _ H2 (.mk r2.tl.tl (.bl _) h2)
    · exact h2.elim
theorem lt_dnin (hu : X.A.units + 1 < cLine) (hi : LE X B i ty) (ho : LE X B o td) (h1 : behindInMarks .NotIn o = false := by first | exact nobehind _ (by decide) (by decide) | rfl) : LT X B (.Compare i [.NotIn] [o] pos) (lTest (lDIn true ty td)) :=
  (pt_cmp (pc_dnotin hu hi ho) h1).imp fun σ H Q ⟨Fz, tv, τ, G, Q3, hB, r, ht, k⟩ => emb.mk hB r ht fun u H1 Fz1 y G1 r1 h1 => emb.mk (subB hB) r1 h1 fun v H2 Fz2 d G2 r2 h2 => by
    split at h2
    · rename_i kvs kk e1 e2
      obtain ⟨a, vs, rfl, rk, hH, g⟩ := dget_at r2.hr r2.h1 r2.h2 e1 e2
      refine ⟨a, _, rfl, g, _, rfl, ?_⟩
      rw [val_some rk]
      rw [Bool.true_xor] at h2
      exact k _ H2 ⟨Fz2, G2, r2.tl.tl, h2⟩
    · exact h2.elim
theorem le_dix (hu : X.A.units + 1 < cLine) (ho : LE X B o td) (hi : LE X B i ty) (hs : NoSl i := by intro _ _; rfl) : LE X B (.Subscript o i pos) (lDIx td ty) :=
  (pe_dget hu ho hi hs).imp fun σ H Q ⟨Fz, tv, τ, G, Q3, hB, r, ht, k⟩ => emb.mk hB r ht fun v H1 Fz1 d G1 r1 h1 => emb.mk (subB hB) r1 h1 fun u H2 Fz2 y G2 r2 h2 => by
    split at h2
    · rename_i kvs kk e1 e2
      obtain ⟨z, hz, q⟩ := h2
      obtain ⟨a, vs, rfl, rk, hH, g⟩ := dget_at r2.hr r2.h2 r2.h1 e1 e2
      obtain ⟨w, hw, rw'⟩ := (rk.val kk).1 z hz
      rw [hw] at g
      exact ⟨a, w, rfl, g, k _ H2 (.mk r2.tl.tl rw' q)⟩
    · exact h2.elim
theorem le_dpop1 (ho : LE X B o td) (he : LE X B e ty) (m : M1 X o "pop" apos e cpos := by exact ⟨rfl, rfl, rfl, rfl⟩) : LE X B (.Call (.Attribute o "pop" apos) [e] [] cpos) (lDPop1 td ty) :=
  (pe_dpop1 ho he m).imp fun σ H Q ⟨Fz, tv, τ, G, Q3, hB, r, ht, k⟩ => emb.mk hB r ht fun v H1 Fz1 d G1 r1 ⟨p, kvs0, ed, e0, h1⟩ => by
    subst ed
    have hv := r1.h1.inv_ref
    subst hv
    obtain ⟨_, vs0, hH0, _⟩ := r1.hr.go _ _ e0
    refine ⟨p, rfl, .inl ⟨vs0, .inl hH0⟩, emb.mk (subB hB) r1 h1 fun u H2 Fz2 y G2 r2 h2 => ?_⟩
    have h2' : (match G2 p, keyD y with
      | some (.dic kvs), some k => ∃ v, valD kvs k = some v ∧ Q3 v (gup G2 p (.dic (dropKD kvs k)))
      | _, _ => False) := h2
    split at h2'
    · rename_i kvs kk e1 e2
      obtain ⟨z, hz, q⟩ := h2'
      obtain ⟨_, vs, hH, rk⟩ := r2.hr.go _ _ e1
      obtain ⟨w, hw, rw'⟩ := (rk.val kk).1 z hz
      have ew := Ext.wr (o := .dK (dropK vs kk)) r2.hr e1
      have hr3 := r2.hr.wr (o := .dK (dropK vs kk)) (g := .dic (dropKD kvs kk)) e1 ⟨_, upd_same, (rk.drop kk).ext ew⟩
      exact ⟨vs, kk, w, hH, keyD_rep r2.h1 e2, hw, k _ _ (.mk (r2.tl.tl.ext ew hr3) (rw'.ext ew) q)⟩
    · exact h2'.elim
theorem lg_dsub {ms : List Nat} (hu : X.A.units + 1 < cLine) (ho : LE X B o to) (hi : LE X B i ti)
    (ha : ∀ v, assign (.Subscript o i pos) X.env v = (do
      let ov ← holding [v] (eval o X.env)
      let iv ← holding [v, ov] (eval i X.env)
      standAt pos
      holding [v, ov, iv] (setItem ov iv v)
      release [v, ov, iv] []) := by intro _; rfl) : LG X B ms (.Subscript o i pos) (gDSub to ti) :=
  (pg_sub ho hi (set_dict hu) ha).imp fun v σ H Q ⟨Fz, tv, τ, G, d, Q3, hB, r, rv, ht, k⟩ => emb.mk (subB (p := (v, d)) hB) (r.push rv) ht fun ov H1 Fz1 o' G1 r1 h1 => emb.mk (subB (subB hB)) r1 h1 fun iv H2 Fz2 i' G2 r2 h2 => by
    cases o' with
    | ref p =>
      have h2' : (match G2 p, keyD i' with
        | some (.dic kvs), some k => kvs.length < sizeLine ∧ Q3 τ (gup G2 p (.dic (putKD kvs k d)))
        | _, _ => False) := h2
      split at h2'
      · rename_i kvs kk e1 e2
        obtain ⟨_, vs, hH, rk⟩ := r2.hr.go _ _ e1
        obtain ⟨hl, q⟩ := h2'
        have ew := Ext.wr (o := .dK (putK vs kk v)) r2.hr e1
        have hr3 := r2.hr.wr (o := .dK (putK vs kk v)) (g := .dic (putKD kvs kk d)) e1 ⟨_, upd_same, (rk.put (r2.tmp _ (List.mem_cons_of_mem _ (List.mem_cons_of_mem _ List.mem_cons_self)))).ext ew⟩
        exact ⟨p, _, r2.h2.inv_ref, .inl ⟨vs, kk, hH, keyD_rep r2.h1 e2, by rw [rk.len]; exact hl, rfl⟩, k σ τ _ Fz2 _ (.refl _ _) (r2.tl.tl2.ext ew hr3) q⟩
      · exact h2'.elim
    | _ => exact h2.elim
/-- a field as a target -/
def gFldT (K : PySem.W.Frag) (to : TE) (f : Str) : TG := fun v σ H Q => to σ H fun x H1 => ∃ a C dx fs, x = .ref a ∧ H1 a = some (.ins C dx fs) ∧ Cls K C ∧ NoAttr K C f ∧ fs.length < 1000 ∧ Q σ (upd H1 a (.ins C dx (putF f v fs)))
theorem pg_fld {to : TE} {f : Str} (ho : PE X o to) : PG X (.Attribute o f pos) (gFldT X.K to f) := by
  refine ⟨fun pins s σ H v u Q I r h => ?_⟩
  rw [assign_Attribute]
  refine wpAny_bind (wpAny_holding (thn (ho.run pins s σ H _ I h) fun ov s1 ⟨x, H1, I1, r1, a, C, dx, fs, ex, ea, c, n, hl, q⟩ => wpAny_bind (wpAny_standAt (wpAny_bind (wpAny_holding ?_)))))
  subst ex
  obtain rfl : ov = Value.ref a := r1
  exact setattr_ok I1 ea c n hl r fun s2 I2 => wpAny_release ⟨σ, _, I2, q⟩
theorem lg_fld {ms : List Nat} {f : Str} (ho : LE X B o to) : LG X B ms (.Attribute o f pos) (gFld3 X.K to f) :=
  (pg_fld ho).imp fun v σ H Q ⟨Fz, tv, τ, G, d, Q3, hB, r, rv, ht, k⟩ => emb.mk (subB (p := (v, d)) hB) (r.push rv) ht fun ov H1 Fz1 o' G1 r1 h1 => by
    cases o' with
    | ref p =>
      have h2' : (match G1 p with
        | some (.ins C fs) => Cls X.K C ∧ NoAttr X.K C f ∧ fs.length < 1000 ∧ Q3 τ (gup G1 p (.ins C (putD f d fs)))
        | _ => False) := h1
      split at h2'
      · rename_i C fs e1
        obtain ⟨_, dx, vs, hH, rk⟩ := r1.hr.go _ _ e1
        obtain ⟨c, n, hl, q⟩ := h2'
        have ew := Ext.wr (o := .ins C dx (putF f v vs)) r1.hr e1
        have hr3 := r1.hr.wr (o := .ins C dx (putF f v vs)) (g := .ins C (putD f d fs)) e1 ⟨dx, _, upd_same, (RepKs.putF r1.h2 rk).ext ew⟩
        exact ⟨p, C, dx, vs, r1.h1.inv_ref, hH, c, n, by rw [rk.len]; exact hl, k σ τ _ Fz1 _ (.refl _ _) (r1.tl2.ext ew hr3) q⟩
      · exact h2'.elim
    | _ => exact h1.elim
end
section
variable {K : PySem.W.Frag}
theorem sim_dcopy : SimC K (fun xs H Q => ∃ (a : Addr) (kvs : List (Key × V)), xs = [.ref a] ∧ Rd H a (.dK kvs) ∧ ∀ p, H p = none → Q (.ref p) (upd H p (.dK kvs))) rDCopy3 := by
  intro Fz σ H tv τ G vs ds Q Q3 rs r h k
  match ds, h with
  | [d], h =>
    obtain ⟨v, rfl, rv⟩ := rs.one_inv
    have h' : (match dicOf G d with
      | some kvs => ∀ p, G p = none → Q3 (.ref p) (gup G p (.dic kvs))
      | none => False) := h
    split at h'
    · rename_i kvs e
      obtain ⟨a, ws, rfl, hH, rk⟩ := dic_at r.hr rv e
      exact ⟨a, ws, rfl, .inl hH, fun p hp => k _ _ (.mk (r.ext (Ext.newG r.hr hp) (r.hr.newG (g := .dic kvs) hp ⟨ws, upd_same, rk.ext (Ext.newG r.hr hp)⟩)) (.ref p) (h' p (r.hr.free hp)))⟩
    · exact h'.elim
  | [], h => exact h.elim
  | _ :: _ :: _, h => exact h.elim
theorem sim_sortD : SimC K (fun xs H Q => ∃ (a : Addr) (kvs : List (Key × V)) (ks : List Str), xs = [.ref a] ∧ Rd H a (.dK kvs) ∧ kvs.map (·.1) = ks.map Sum.inr ∧ ks.length < 64 ∧ ∀ ys p, ys.Perm ks → sortedS ys = true → H p = none → Q (.ref p) (upd H p (.lst (ys.map V.str)))) rSortD3 := by
  intro Fz σ H tv τ G vs ds Q Q3 rs r h k
  match ds, h with
  | [d], h =>
    obtain ⟨v, rfl, rv⟩ := rs.one_inv
    have h' : (match dicOf G d with
      | some kvs => ∃ ks : List Str, kvs.map (·.1) = ks.map Sum.inr ∧ ks.length < 64 ∧ ∀ ys, ys.Perm ks → sortedS ys = true → Q3 (.lst (ys.map .str)) G
      | none => False) := h
    split at h'
    · rename_i kvs e
      obtain ⟨ks, hk, hl, q⟩ := h'
      obtain ⟨a, ws, rfl, hH, rk⟩ := dic_at r.hr rv e
      exact ⟨a, ws, ks, rfl, .inl hH, rk.keys.trans hk, hl, fun ys p hp hs hn => k _ _ (.mk (r.new hn) (Rep.mk_lst Rel.stl (reps_strs ys)) (q ys hp hs))⟩
    · exact h'.elim
  | [], h => exact h.elim
  | _ :: _ :: _, h => exact h.elim
theorem sim_lenD : SimC K (fun xs H Q => ∃ a kvs, xs = [V.ref a] ∧ H a = some (.dK kvs) ∧ Q (.int kvs.length) H) rLenD3 := by
  intro Fz σ H tv τ G vs ds Q Q3 rs r h k
  match ds, h with
  | [d], h =>
    obtain ⟨v, rfl, rv⟩ := rs.one_inv
    have h' : (match dicOf G d with
      | some kvs => Q3 (.int kvs.length) G
      | none => False) := h
    split at h'
    · rename_i kvs e
      obtain ⟨a, ws, rfl, hH, rk⟩ := dic_at r.hr rv e
      exact ⟨a, ws, rfl, hH, by rw [rk.len]; exact k _ _ (.mk r (.int _) h')⟩
    · exact h'.elim
  | [], h => exact h.elim
  | _ :: _ :: _, h => exact h.elim
end
end L3
end

section
set_option Elab.async false
set_option linter.all false
set_option maxRecDepth 100000
set_option maxHeartbeats 4000000
/-! L3et: enumerate of a tuple, of a list or a tuple. -/
namespace LEt
open PySem
theorem new_enumB {v : Value} {o : Obj} {H : Heap → Prop} (B : Begins v o H) :
    Meets (Builtin.«enumerate.__new__» ⟨[.type "enumerate", v], []⟩) (fun _ R s => H s.heap ∧
      R (.ok (.ret (.ref (s.heap.push o).objs.size))) { s with heap := (s.heap.push o).push { cls := .type "enumerate", data := .fields #[.none, .bool false, .ref s.heap.objs.size, rawInt 0, .none, .none] } }) :=
  .of_wp fun prog w A R s h => by
    obtain ⟨hp, g, d, tk, os⟩ := s
    obtain ⟨h1, h⟩ := h
    have hsub := sub_enumerate
    have begun : ∀ {A' : Around} {E : Value → Shared → Prop} {Q : Value → Shared → Prop}, Q (.ref hp.objs.size) ⟨hp.push o, g, d, tk, os⟩ → wpAny (model prog w) A' (pyIter v) Q E ⟨hp, g, d, tk, os⟩ :=
      fun q => B.iter prog w _ _ ⟨hp, g, d, tk, os⟩ _ h1 q
    wp_walk using begun
    refine wpAny_stack_any fun st => wpAny_pure ?_
    split
    · rename_i c _ _ _ _ _
      cases (c == Value.type "enumerate") <;> (wp_walk using begun; exact ⟨_, rfl, h⟩)
    · wp_walk using begun
      exact ⟨_, rfl, h⟩
theorem call_enumB {prog : Program} {w : World} {A : Around} {E : Value → Shared → Prop} {s : Shared} {v : Value} {o : Obj} {H : Heap → Prop} {Q : Value → Shared → Prop} (B : Begins v o H) (h1 : H s.heap)
    (h : ∀ h', IsEnum h' (s.heap.objs.size + 1) s.heap.objs.size 0 .none → h'.get? s.heap.objs.size = some o → h'.objs.size = s.heap.objs.size + 2 → (∀ b o, s.heap.get? b = some o → h'.get? b = some o) → Q (.ref (s.heap.objs.size + 1)) { s with heap := h' }) :
    wpAny (model prog w) A (call (.type "enumerate") [v]) Q E s := by
  refine callType_new F.called_enumerate (by decide) (F.typeCall_enumerate_1 _) (F.newCall_enumerate_1 _) (fun obj => F.args_object_init_2 obj _) F.entry_enumerate_new (new_enumB B) ⟨h1, ?_⟩
  have hz : (s.heap.push o).objs.size = s.heap.objs.size + 1 := Heap.size_push ..
  show _ ∧ _
  rw [hz]
  have he := Heap.get?_push_size (s.heap.push o) (o := { cls := .type "enumerate", data := .fields #[.none, .bool false, .ref s.heap.objs.size, rawInt 0, .none, .none] }) rfl
  rw [hz] at he
  exact ⟨⟨_, he, rfl⟩, h _ he (Heap.get?_push_of_some _ (Heap.get?_push_size _ B.free)) (by rw [Heap.size_push, hz]) fun b o x => Heap.get?_push_of_some _ (Heap.get?_push_of_some _ x)⟩
theorem enumT_end {prog : Program} {w : World} {A : Around} {E : Value → Shared → Prop} {s : Shared} {c it t : Addr} {k i : Nat} {xs : Array Value} {old : Value} {Q : Option Value → Shared → Prop} (calm : A.handled = none) (he : IsEnum s.heap c it k old)
    (hi : s.heap.IsTupleIter it t i) (ht : s.heap.IsTuple t xs) (none_ : xs[i]? = none) (fin : ∀ h', Heap.ExtBut it s.heap h' → Q none { s with heap := h' }) : wpAny (model prog w) A (pyNext (.ref c)) Q E s := by
  have kind : s.TypeIs (.ref c) "enumerate" := ⟨_, he, rfl⟩
  unfold pyNext
  refine wpAny_bind (wpAny_attempt (wpAny_callSpecial?_slot (name := Str.ofString "__next__") kind F.slot_enumerate_next (wpAny_call_entry F.slot_enumerate_next kind F.entry_enumerate_next ?_ (F.args_enumerate_next_1 _))))
  show wpAny _ _ (field (.ref c) 2 >>= _) _ _ _
  refine wpAny_bind (wpAny_field he rfl (x := .ref it) rfl (wpAny_bind (wpAny_nextOf_tuple_end calm hi ht none_ fun h' x up stop => ?_)))
  obtain ⟨o, ho, hc⟩ := stop
  exact wpAny_bind (wpAny_isInstance (T := "StopIteration") (b := true) ⟨o, ho, hc⟩ isSubtype_stop (wpAny_pure (fin _ up)))
end LEt
namespace L2
open PySem PySem.Spec PyProof.Rows
/-- the tuple at a, each item in a new pair -/
def IteT (K : PySem.W.Frag) (a : Addr) : It :=
  ⟨fun i H => ∃ (xs : List V) (x : V), SqT K H a xs ∧ xs[i]? = some x, fun i H v H' => ∃ T x, v = .ref T ∧ H T = none ∧ H' = upd H T (.tup [.int (i : Nat), x]) ∧ ∀ xs, SqT K H a xs → xs[i]? = some x, fun i H => ∃ xs : List V, SqT K H a xs ∧ xs.length ≤ i⟩
theorem turn_enumT {P : Program} {w : World} {K : PySem.W.Frag} {elts : List Expr} {kk : Nat} {tpos : Pos} (a e it : Addr) :
    Turn P w K (.Tuple elts kk tpos) (IteT K a) [e, it] e (fun i h => (∃ old, IsEnum h e it ((i : Nat) : Int) old) ∧ h.IsTupleIter it a i ∧ e ≠ it ∧ a ≠ it ∧ a ≠ e) where
  mem := by simp
  obj := fun i h st b hb => by
    obtain ⟨⟨old, he⟩, ⟨o, ho, hc, hd⟩, _⟩ := st
    rcases (show b = e ∨ b = it by simpa using hb) with z | z
    · rw [z]; exact ⟨_, he, fun v q => nomatch q⟩
    · rw [z]; exact ⟨o, ho, fun v q => by rw [hd] at q; cases q⟩
  keep := fun i h h' st k => let ⟨⟨old, he⟩, hi, hne, r⟩ := st; ⟨⟨old, k e (by simp) _ he⟩, hi.at fun o q => k it (by simp) o q, hne, r⟩
  item := by
    intro X hP hw hK hc i pins s σ H E I hf st hg
    subst hP hw hK
    obtain ⟨⟨old, he⟩, hit, hne, hai, hae⟩ := st
    obtain ⟨xs, x, hq, hx⟩ := hg
    obtain ⟨its, rv, p, hz⟩ := I.tuple hq
    obtain ⟨u, hu, ru⟩ := rv.get hx
    have hlt : i < its.toArray.size := by simpa using (List.getElem?_eq_some_iff.mp hu).1
    have hel : e < s.heap.objs.size := Heap.lt_size he
    have hil : it < s.heap.objs.size := by obtain ⟨_, q, _⟩ := hit; exact Heap.lt_size q
    refine wpAny_pyNext_enum_itemC (Draws.tuple (A := X.A.in1) (I.ok.hd hc) it a hai its.toArray) he ⟨hit, p⟩ hlt hne (fun z => by simp [hne, Ne.symm hae] at z) fun x' h' tk hP ho hst hT hsz hk => ?_
    obtain ⟨hit', _⟩ := hst
    have ex : x' = u := by
      have h1 : its[i]? = some x' := by simpa using hP
      rw [hu] at h1
      exact (Option.some.inj h1).symm
    subst ex
    refine ⟨_, rfl, wpAny_letOwnedTupleGo_enum (s := { s with heap := h', toks := tk + 1 }) ho fun h'' he' sb => ?_⟩
    have hT2 : h''.get? s.heap.objs.size = some { cls := .type "tuple", data := .seq #[.int i tk, x'] } := (sb.2 _ (Nat.ne_of_gt hel)).trans hT
    have new : ObjOk X.prog X.w (upd H s.heap.objs.size (.tup [.int (i : Nat), x])) h'' s.heap.objs.size (.tup [.int (i : Nat), x]) :=
      ⟨by show 2 ≤ sizeLine; decide, [.int i tk, x'], .cons ⟨_, rfl⟩ (.cons ru .nil), ⟨_, hT2, rfl, _, rfl⟩⟩
    have I1 : Inv X pins σ (upd H s.heap.objs.size (.tup [.int (i : Nat), x])) { s with heap := h'', toks := tk + 1 } :=
      I.turnedNew (ch := [e, it]) (fun b ob hb q => (sb.2 b (fun z => hb (by simp [z]))).trans (hk b ob (fun z => hb (by simp [z])) (fun z => hb (by simp [z])) q)) hf (Nat.le_refl _) new
    refine ⟨.ref s.heap.objs.size, _, I1, rfl, ⟨_, x, rfl, I.hok.fresh (Nat.le_refl _), rfl, fun ys hy => by rw [I.tuple_inj hy hq]; exact hx⟩, ⟨⟨x', ?_⟩, hit'.at fun o q => (sb.2 it (Ne.symm hne)).trans q, hne, hai, hae⟩, fun b hb => ?_⟩
    · rw [show ((i + 1 : Nat) : Int) = (i : Int) + 1 by omega]; exact he'
    · have hb' : b < s.heap.objs.size := by
        rcases (show b = e ∨ b = it by simpa using hb) with z | z
        · rw [z]; exact hel
        · rw [z]; exact hil
      rw [upd_ne (Nat.ne_of_lt hb')]
      exact (hf b hb).1
  done := by
    intro X hP hw hK hc i pins s σ H E I hf st hg
    subst hP hw hK
    obtain ⟨⟨old, he⟩, hit, hne, hai, hae⟩ := st
    obtain ⟨xs, hq, hx⟩ := hg
    obtain ⟨its, rv, p, hz⟩ := I.tuple hq
    obtain ⟨f0, f1, f2, f3, f4, f5⟩ := hf it (by simp)
    have hl := rv.length
    exact LEt.enumT_end (I.ok.hd hc) he hit p (by simp; omega) fun h' eb => ⟨rfl, I.turned (t' := s.toks) (fun b o hb q => eb b o hb q) f0 f1 f3 f4 f5⟩
  self := fun A i s Q E st h => let ⟨⟨_, he⟩, _⟩ := st; wpAny_pyIter_enum he h
/-- enumerate of a list or of a tuple -/
def iEnumQ (K : PySem.W.Frag) (ta : TA) : TI := fun σ H R => ta σ H fun vs H1 => ∃ a xs, vs = [.ref a] ∧ ((SqL K H1 a xs ∧ R (Ite K a) H1) ∨ (SqT K H1 a xs ∧ R (IteT K a) H1))
theorem pi_enumQ {X : Cx} {e : Expr} {ta : TA} {p pos tpos : Pos} {elts : List Expr} {kk : Nat} (hg : Gl X "enumerate") (hm : X.mg "enumerate" = none) (ha : PA X [e] ta) (hs : starEach [e] X.env = [(false, eval e X.env)] := by rfl) :
    PI X (.Tuple elts kk tpos) (.Call (.Name "enumerate" p) [e] [] pos) (iEnumQ X.K ta) := by
  refine ⟨fun pins s σ H R I h => Call_ (ld_blt I hg hm boot_enumerate (PyProof.Rows.callWith_type1 (thn (ha.run pos pins s σ H _ I h) fun us s1 ⟨vs, H1, I1, r1, a, xs, ex, q⟩ => ?_) hs rfl))⟩
  subst ex
  cases r1 with
  | cons r rr =>
    cases rr
    cases r
    have young : ∀ b, b ∈ [s1.heap.objs.size + 1, s1.heap.objs.size] → FpOk X pins H1 b := fun b hb => by
      have hle : s1.heap.objs.size ≤ b := by
        rcases (show b = s1.heap.objs.size + 1 ∨ b = s1.heap.objs.size by simpa using hb) with z | z
        · rw [z]; exact Nat.le_add_right _ _
        · rw [z]; exact Nat.le_refl _
      exact I1.fpOk hle (I1.hok.fresh hle)
    rcases q with ⟨hq, q⟩ | ⟨hq, q⟩
    · obtain ⟨its, rv, p', hz⟩ := I1.list hq
      exact call_enumerate_list p'.isList fun h' he hit hsz hk => wpAny_pyIter_enum he ⟨s1.heap.objs.size + 1, [s1.heap.objs.size + 1, s1.heap.objs.size], _, _, H1, rfl, I1.kept (t' := s1.toks) hk, turn_enum a (s1.heap.objs.size + 1) s1.heap.objs.size, ⟨⟨.none, he⟩, hit, Nat.succ_ne_self _⟩, young, q⟩
    · obtain ⟨its, rv, p', hz⟩ := I1.tuple hq
      have hlt : a < s1.heap.objs.size := by obtain ⟨o, e, _⟩ := p'; exact Heap.lt_size e
      exact LEt.call_enumB (begins_tuple a its.toArray) p' fun h' he hit hsz hk => wpAny_pyIter_enum he ⟨s1.heap.objs.size + 1, [s1.heap.objs.size + 1, s1.heap.objs.size], _, _, H1, rfl, I1.kept (t' := s1.toks) hk, turn_enumT a (s1.heap.objs.size + 1) s1.heap.objs.size,
        ⟨⟨.none, he⟩, ⟨_, hit, rfl, rfl⟩, Nat.succ_ne_self _, Nat.ne_of_lt hlt, Nat.ne_of_lt (Nat.lt_succ_of_lt hlt)⟩, young, q⟩
end L2
namespace L3
open PySem PySem.Spec PyProof.Rows L2
theorem sims_enumT {K : PySem.W.Frag} {a : Addr} {ds : List D} {tv : BT} (hm : (V.ref a, D.tup ds) ∈ tv) : Sims K tv (IteT K a) (enL ds) where
  go := fun {i τ G Fz σ H} r hi => by
    rw [enL_len] at hi
    obtain ⟨b, vs, e, s, q⟩ := (r.tmp _ hm).inv_tup
    cases e
    obtain ⟨v, hv, _⟩ := q.get (i := i) (d := ds[i]) (by simp [hi])
    exact ⟨vs, v, sqT_of s, hv⟩
  stop := fun {i τ G Fz σ H} r hi => by
    rw [enL_len] at hi
    obtain ⟨b, vs, e, s, q⟩ := (r.tmp _ hm).inv_tup
    cases e
    exact ⟨vs, sqT_of s, by rw [q.len]; exact hi⟩
  yld := fun {i τ G Fz σ H x H' d} r hd y => by
    obtain ⟨T, x, rfl, hT, rfl, y⟩ := y
    obtain ⟨b, vs, e, s, q⟩ := (r.tmp _ hm).inv_tup
    cases e
    have hi : i < ds.length := by have := (List.getElem?_eq_some_iff.mp hd).1; rwa [enL_len] at this
    have hg : ds[i]? = some ds[i] := by simp [hi]
    rw [enL_get hg] at hd
    cases hd
    have rx := q.at_ i _ _ (y vs (sqT_of s)) hg
    exact ⟨_, (r.new hT).push (Rep.mk_tup Rel.stl (.cons (.int _) (.one (rx.ext (r.ext1 hT)))))⟩
/-- over enumerate of a list or a tuple by value -/
def iEnumQ3 (te : TE3) : TI3 := fun τ G R => te τ G fun d G1 => match d with
  | .lst ds => R (enL ds) G1
  | .tup ds => R (enL ds) G1
  | _ => False
theorem li_enumQ {X : Cx} {B : BT} {e : Expr} {te : TE3} {p pos tpos : Pos} {elts : List Expr} {kk : Nat} (hg : Gl X "enumerate") (hm : X.mg "enumerate" = none) (h : LE X B e te) (hs : starEach [e] X.env = [(false, eval e X.env)] := by rfl) (hs' : starEach [e] X.env = (false, eval e X.env) :: starEach [] X.env := by rfl) :
    LI X B (.Tuple elts kk tpos) (.Call (.Name "enumerate" p) [e] [] pos) (iEnumQ3 te) :=
  (pi_enumQ hg hm (pa_cons h pa_nil hs') hs).imp fun σ H R ⟨Fz, tv, τ, G, R3, hB, r, ht, k⟩ => emb.mk hB r ht fun v H1 Fz1 d G1 r1 h1 => by
    cases d with
    | lst ds =>
      obtain ⟨a, vs, rfl, s, q⟩ := r1.h1.inv_lst
      exact ⟨a, vs, rfl, .inl ⟨SqL.of s.2, k _ H1 Fz1 _ _ G1 (fun p hp => List.mem_cons_of_mem _ hp) r1 (sims_enum List.mem_cons_self) h1⟩⟩
    | tup ds =>
      obtain ⟨a, vs, rfl, s, q⟩ := r1.h1.inv_tup
      exact ⟨a, vs, rfl, .inr ⟨sqT_of s, k _ H1 Fz1 _ _ G1 (fun p hp => List.mem_cons_of_mem _ hp) r1 (sims_enumT List.mem_cons_self) h1⟩⟩
    | _ => exact h1.elim
end L3
end

section
set_option Elab.async false
set_option linter.all false
set_option maxRecDepth 100000
set_option maxHeartbeats 4000000
/-! L3tn: a try in which nothing is raised; C(). -/
namespace L3
open PySem PySem.Spec PyProof.Rows L2
section
variable {X : Cx} {B : BT} {x n : Str} {c : Value} {i : Nat} {body suite : List Stmt} {b₀ : Stmt} {np pos pos' : Pos} {t : TS3}
theorem ls_tryN (hs : X.stack = X.env :: X.outer) (hf : X.env.frame = some X.env.locals) (hN : X.N.Nodup) (hc : Names X x c) (hb : ∀ (pn : List (Addr × Obj)) (xe : Value → Shared → Prop), LB (X.tr pn xe) B body t)
    (hi : X.N[i]? = some n := by rfl) (hln : X.env.kindOf n = some .local := by rfl) : LS X B (.Try body [.ExceptHandler (some (.Name x np)) (some n) (b₀ :: suite) pos'] [] [] pos) t :=
  L2N.ps_try_as (Wout := fun _ _ _ _ => False) (tb := fun W D σ H => embS X.K B t D σ H) (ts := fun a cls d D σ H => False) (np := np) (pos := pos) (pos' := pos') (suite := suite) (b₀ := b₀) (body := body) hs hf hN hi hln hc (fun _ _ ⟨_, _, _, _, _, _, _, _, _, _, _, _, _, _, _, _, z⟩ => z.elim)
    (fun W pn xe tk _ => hb pn xe) (fun a oe cls d pn hz hfl => ⟨fun pins s σ H D I h => h.elim⟩)
end
section
variable {X : Cx} {B : BT} {C : Addr} {k : Nat} {sp : Sp3} {ddv : List D} {x : Str} {p pos : Pos}
theorem le_make0 (M : CalN X.prog X.w X.K X.mg X.base x C k sp ddv) (hr : Room (k + 1) X.A) (hg : Gl X x := by rfl) (hdb : (x == ("__debug__" : Str)) = false := by decide) : LE X B (.Call (.Name x p) [] [] pos) (lMake C sp ddv lNil) := by
  obtain ⟨f, fd, ps, dvs, ds, hm, mk, F, hb, hd, hv⟩ := M.ex
  exact (pe_make0 mk F hr hg hm hb hd pass0 hdb).imp fun σ H Q ⟨Fz, tv, τ, G, Q3, hB, r1, h1, kk⟩ a dx ha hdx hne => by
    have hdx' : H dx = none := hdx
    have r2 := r1.new (o := .own a) hdx
    have ha2 : upd H dx (.own a) a = none := by rw [upd_ne (Ne.symm hne)]; exact ha
    have e3 : Ext (fzup Fz dx) (upd H dx (.own a)) (fzup Fz dx) (upd (upd H dx (.own a)) a (.ins C dx [])) := Ext.newG r2.hr ha2
    have hr3 := r2.hr.newG (g := .ins C []) ha2 ⟨dx, [], upd_same, .nil⟩
    have r3 := r2.ext e3 hr3
    refine low_of (E := E0) (vs := V.ref a :: ([] ++ dvs)) (ds := D.ref a :: ([] ++ ddv)) r3 (.cons (.ref a) (Reps.append .nil (hv _ _))) (h1 a (r1.hr.free ha)) fun v H' hp => ?_
    obtain ⟨Fz', d, G', r', hd, q⟩ := hp
    subst hd
    exact ⟨r'.h1.inv_non, kk _ H' (.mk r'.tl (.ref a) q)⟩
end
end L3
end

section
set_option Elab.async false
set_option linter.all false
set_option maxRecDepth 100000
set_option maxHeartbeats 0
namespace K69
open PySem PySem.Spec PyProof.Rows L2 L3
structure Bi (mg : Str → Option Value) : Prop where
  len : mg "len" = none
  isinstance : mg "isinstance" = none
  all : mg "all" = none
  any : mg "any" = none
  range : mg "range" = none
  abs : mg "abs" = none
  min : mg "min" = none
  max : mg "max" = none
  int : mg "int" = none
  list : mg "list" = none
  tuple : mg "tuple" = none
  sum : mg "sum" = none
  enumerate : mg "enumerate" = none
  zip : mg "zip" = none
  repr : mg "repr" = none
  str : mg "str" = none
  bool : mg "bool" = none
  dict : mg "dict" = none
  ord : mg "ord" = none
  sorted : mg "sorted" = none
theorem boot_repr : bootBuiltins "repr" = some (.builtin "repr") := by kernel_rfl
theorem boot_strT : bootBuiltins "str" = some (.type "str") := by kernel_rfl
theorem boot_all : bootBuiltins "all" = some (.builtin "all") := by kernel_rfl
theorem boot_any : bootBuiltins "any" = some (.builtin "any") := by kernel_rfl
theorem boot_abs : bootBuiltins "abs" = some (.builtin "abs") := by kernel_rfl
theorem boot_ord : bootBuiltins "ord" = some (.builtin "ord") := by kernel_rfl
theorem boot_sorted : bootBuiltins "sorted" = some (.builtin "sorted") := by kernel_rfl
theorem boot_dict : bootBuiltins "dict" = some (.type "dict") := by kernel_rfl
section
variable {P : Program} {w : World} {K : PySem.W.Frag} {mg : Str → Option Value} {base : Heap}
abbrev N_is_name : List Str := ["thing", "sign"]
theorem sc_is_name : FnScope N_is_name ["thing"] d_is_name.scope := ⟨rfl, rfl, rfl, by decide +kernel, rfl, by decide +kernel, by decide +kernel⟩
def t_is_name  : TS3 := sRet (lAndV (lIsi .str (lVar 0)) (lAndV (lChain rLe3 rLe3 (lC (.int 1)) (lCB rLen3 (lCons (lVar 0) (lNil))) (lC (.int 12))) (lCB rAll3 (lCons (lLc (iStr3 (lVar 0)) (gName3 1) (tYes3) (lOp (rIn3 false) (lVar 1) (lC (.str "abcdefghijklmnopqrstuvwxyz0123456789."))) [1]) (lNil)))))
theorem w_is_name {k : Nat}  {f0 : Addr} {cdv : Value} {A : Around} {outer : List Env} {s : Shared} {H : Hp} {E : XK} (hr : Room k (A.deeper (envOfC d_is_name.qual d_is_name.scope s.heap.objs.size f0 cdv))) (b : Bi mg) (c_LONGEST : ∃ t, mg "LONGEST" = some (.int 12 t)) (c_SIGNS : ∃ t, mg "SIGNS" = some (.str "abcdefghijklmnopqrstuvwxyz0123456789." t)) :
    LB (cxOf CX0 P w K mg base N_is_name d_is_name.qual d_is_name.scope f0 cdv A outer s H E).nox [] d_is_name.body (t_is_name ) :=
  have sc := sc_is_name
  lb_one (ls_ret (le_and (le_isi .str rfl b.isinstance rfl b.str PyProof.Rows.boot_str (le_var 0)) (le_and (le_chain op_le sim_B0 op_le sim_B0 (le_int) (le_callB callr_len sim_len rfl b.len boot_len (la_cons (le_var 0) (la_nil))) (le_gi rfl c_LONGEST)) (le_one (le_callB (cr_all rfl) sim_all rfl b.all boot_all (la_cons (le_lc [("sign", 1)] rfl sc.nd (li_str (le_var 0)) (blkOk_by (N := N_is_name) (sc := d_is_name.scope) (by decide +kernel)) (fun _ _ _ _ _ => lg_name (ms := [1]) 1 sc.nd) (fun _ _ _ _ _ => lts_nil) (fun _ _ _ _ _ => le_cmp (opr_in (hu65 hr)) sim_in (le_var 1) (le_gs rfl c_SIGNS) (by rfl))) (la_nil)))))))
abbrev N_most_pick : List Str := ["deed"]
theorem sc_most_pick : FnScope N_most_pick ["deed"] d_most_pick.scope := ⟨rfl, rfl, rfl, by decide +kernel, rfl, by decide +kernel, by decide +kernel⟩
def t_most_pick  : TS3 := sSeq (sIf (lTest (lOp rEq3 (lOp rIx3 (lVar 0) (lC (.int 0))) (lC (.str "erase")))) (sRet (lC (.int 1))) (sNext)) (sRet (lOp rAdd3 (lCB rLen3 (lCons (lOp rIx3 (lVar 0) (lC (.int 2))) (lNil))) (lC (.int 1))))
theorem w_most_pick {k : Nat}  {f0 : Addr} {cdv : Value} {A : Around} {outer : List Env} {s : Shared} {H : Hp} {E : XK} (hr : Room k (A.deeper (envOfC d_most_pick.qual d_most_pick.scope s.heap.objs.size f0 cdv))) (b : Bi mg)  :
    LB (cxOf CX0 P w K mg base N_most_pick d_most_pick.qual d_most_pick.scope f0 cdv A outer s H E).nox [] d_most_pick.body (t_most_pick ) :=
  have sc := sc_most_pick
  lb_cons (ls_if (lt_cmp (opr_eq hr.units) sim_eq (le_ix (le_var 0) (le_int)) (le_str) (nomark _)) (lb_one (ls_ret (le_int))) (lb_nil)) (lb_one (ls_ret (le_op opr_add sim_add (le_callB callr_len sim_len rfl b.len boot_len (la_cons (le_ix (le_var 0) (le_int)) (la_nil))) (le_int))))
abbrev N_changed : List Str := ["files", "deed", "pick", "word", "name", "texts"]
theorem sc_changed : FnScope N_changed ["files", "deed", "pick"] d_changed.scope := ⟨rfl, rfl, rfl, by decide +kernel, rfl, by decide +kernel, by decide +kernel⟩
def t_changed  : TS3 := sSeq (sAsg (lVar 1) (gStar3 2 (gCons3 (gName3 3) (gCons3 (gName3 4) (gCons3 (gName3 5) (gNil3)))))) (sIf (lTest (lOp rEq3 (lVar 3) (lC (.str "erase")))) (sIf (lTest (lDIn false (lVar 4) (lVar 0))) (sDrop (lDPop1 (lVar 0) (lVar 4))) (sNext)) (sAsg (lSl rSl3 (lOp rIx3 (lVar 5) (lC (.int 0))) (lNoPart) (lPart (lOp rSub3 (lVar 2) (lC (.int 1))))) (gDSub (lVar 0) (lVar 4))))
theorem w_changed {k : Nat}  {f0 : Addr} {cdv : Value} {A : Around} {outer : List Env} {s : Shared} {H : Hp} {E : XK} (hr : Room k (A.deeper (envOfC d_changed.qual d_changed.scope s.heap.objs.size f0 cdv))) (b : Bi mg)  :
    LB (cxOf CX0 P w K mg base N_changed d_changed.qual d_changed.scope f0 cdv A outer s H E).nox [] d_changed.body (t_changed ) :=
  have sc := sc_changed
  lb_cons (ls_asg (le_var 1) (lg_star rfl (lgs_cons (lg_name (ms := [3, 4, 5]) 3 sc.nd) (lgs_cons (lg_name (ms := [3, 4, 5]) 4 sc.nd) (lgs_star (lg_name (ms := [3, 4, 5]) 5 sc.nd) (lgs_nil (ms := [3, 4, 5]))))))) (lb_one (ls_if (lt_cmp (opr_eq hr.units) sim_eq (le_var 3) (le_str) (nomark _)) (lb_one (ls_if (lt_din (hu_of hr) (le_var 4) (le_var 0)) (lb_one (ls_expr (le_dpop1 (le_var 0) (le_var 4)))) (lb_nil))) (lb_one (ls_asg (le_slice (le_ix (le_var 5) (le_int)) (lo_none) (lo_some (le_op op_sub sim_I0 (le_var 2) (le_int)))) (lg_dsub (ms := []) (hu_of hr) (le_var 0) (le_var 4))))))
abbrev N_Disk___init__ : List Str := ["self"]
theorem sc_Disk___init__ : FnScope N_Disk___init__ ["self"] d_Disk___init__.scope := ⟨rfl, rfl, rfl, by decide +kernel, rfl, by decide +kernel, by decide +kernel⟩
def t_Disk___init__ (K : PySem.W.Frag) : TS3 := sSeq (sFld3 K (lVar 0) (lDNew) "files") (sFld3 K (lVar 0) (lLstG (lNil)) "queue")
theorem w_Disk___init__ {k : Nat}  {f0 : Addr} {cdv : Value} {A : Around} {outer : List Env} {s : Shared} {H : Hp} {E : XK} (hr : Room k (A.deeper (envOfC d_Disk___init__.qual d_Disk___init__.scope s.heap.objs.size f0 cdv))) (b : Bi mg)  :
    LB (cxOf CX0 P w K mg base N_Disk___init__ d_Disk___init__.qual d_Disk___init__.scope f0 cdv A outer s H E).nox [] d_Disk___init__.body (t_Disk___init__ K) :=
  have sc := sc_Disk___init__
  lb_cons (ls_fld (le_var 0) (le_dnew)) (lb_one (ls_fld (le_var 0) (le_lstG (la_nil))))
abbrev N_Disk_as_done : List Str := ["self", "found", "deed"]
theorem sc_Disk_as_done : FnScope N_Disk_as_done ["self"] d_Disk_as_done.scope := ⟨rfl, rfl, rfl, by decide +kernel, rfl, by decide +kernel, by decide +kernel⟩
def t_Disk_as_done (K : PySem.W.Frag) (sp_changed : Sp3) (sp_most_pick : Sp3) : TS3 := sSeq (sAsg (lCB rDCopy3 (lCons (lFld K "files" (lVar 0)) (lNil))) (gName3 1)) (sSeq (sForP (iLive (lFld K "queue" (lVar 0))) (gName3 2) (sDrop (lCall sp_changed [] (lCons (lVar 1) (lCons (lVar 2) (lCons (lCall sp_most_pick [] (lCons (lVar 2) (lNil))) (lNil))))))) (sRet (lVar 1)))
theorem w_Disk_as_done {k : Nat} {sp_changed : Sp3} {sp_most_pick : Sp3} {f0 : Addr} {cdv : Value} {A : Around} {outer : List Env} {s : Shared} {H : Hp} {E : XK} (hr : Room k (A.deeper (envOfC d_Disk_as_done.qual d_Disk_as_done.scope s.heap.objs.size f0 cdv))) (b : Bi mg) {k_changed : Nat} (C_changed : Cal P w K mg base "changed" k_changed sp_changed []) (l_changed : k_changed ≤ k) {k_most_pick : Nat} (C_most_pick : Cal P w K mg base "most_pick" k_most_pick sp_most_pick []) (l_most_pick : k_most_pick ≤ k) :
    LB (cxOf CX0 P w K mg base N_Disk_as_done d_Disk_as_done.qual d_Disk_as_done.scope f0 cdv A outer s H E).nox [] d_Disk_as_done.body (t_Disk_as_done K sp_changed sp_most_pick) :=
  have sc := sc_Disk_as_done
  lb_cons (ls_set 1 sc.nd (le_callTy call_dictD sim_dcopy rfl b.dict boot_dict (la_cons (le_fld (le_var 0)) (la_nil)))) (lb_cons (ls_forP rfl (lip_list (le_fld (le_var 0))) (lg_name (ms := [2]) 2 sc.nd) (lb_one (ls_expr (le_call C_changed (hr.mono l_changed) (la_cons (le_var 1) (la_cons (le_var 2) (la_cons (le_call C_most_pick (hr.mono l_most_pick) (la_cons (le_var 2) (la_nil))) (la_nil)))))))) (lb_one (ls_ret (le_var 1))))
abbrev N_Disk_twin : List Str := ["self", "other"]
theorem sc_Disk_twin : FnScope N_Disk_twin ["self"] d_Disk_twin.scope := ⟨rfl, rfl, rfl, by decide +kernel, rfl, by decide +kernel, by decide +kernel⟩
def t_Disk_twin (K : PySem.W.Frag) (c_Disk : Addr) (sp_Disk : Sp3) (dd_Disk : List D) : TS3 := sSeq (sAsg (lMake c_Disk sp_Disk dd_Disk lNil) (gName3 1)) (sSeq (sAsg (lTup (lCons (lCB rDCopy3 (lCons (lFld K "files" (lVar 0)) (lNil))) (lCons (lCB rListG3 (lCons (lFld K "queue" (lVar 0)) (lNil))) (lNil)))) (gTup3 2 (gCons3 (gFld3 K (lVar 1) "files") (gCons3 (gFld3 K (lVar 1) "queue") (gNil3))))) (sRet (lVar 1)))
theorem w_Disk_twin {k : Nat} {c_Disk : Addr} {sp_Disk : Sp3} {dd_Disk : List D} {f0 : Addr} {cdv : Value} {A : Around} {outer : List Env} {s : Shared} {H : Hp} {E : XK} (hr : Room k (A.deeper (envOfC d_Disk_twin.qual d_Disk_twin.scope s.heap.objs.size f0 cdv))) (b : Bi mg) {k_Disk : Nat} (N_Disk : CalN P w K mg base "Disk" c_Disk k_Disk sp_Disk dd_Disk) (l_Disk : k_Disk + 1 ≤ k) :
    LB (cxOf CX0 P w K mg base N_Disk_twin d_Disk_twin.qual d_Disk_twin.scope f0 cdv A outer s H E).nox [] d_Disk_twin.body (t_Disk_twin K c_Disk sp_Disk dd_Disk) :=
  have sc := sc_Disk_twin
  lb_cons (ls_set 1 sc.nd (le_make0 N_Disk (hr.mono l_Disk))) (lb_cons (ls_asg (le_tup (la_cons (le_callTy call_dictD sim_dcopy rfl b.dict boot_dict (la_cons (le_fld (le_var 0)) (la_nil))) (la_cons (le_callTy call_list_of sim_listG rfl b.list boot_list (la_cons (le_fld (le_var 0)) (la_nil))) (la_nil)))) (lg_tup rfl (lgs_cons (lg_fld (ms := []) (le_var 1)) (lgs_cons (lg_fld (ms := []) (le_var 1)) (lgs_nil (ms := [])))))) (lb_one (ls_ret (le_var 1))))
abbrev N_Disk_write : List Str := ["self", "name", "text"]
theorem sc_Disk_write : FnScope N_Disk_write ["self", "name", "text"] d_Disk_write.scope := ⟨rfl, rfl, rfl, by decide +kernel, rfl, by decide +kernel, by decide +kernel⟩
def t_Disk_write (K : PySem.W.Frag) (sp_is_name : Sp3) : TS3 := sSeq (sIf (lNot (lTest (lCall sp_is_name [] (lCons (lVar 1) (lNil))))) (sNever) (sNext)) (sDrop (lLm rApp3 (lFld K "queue" (lVar 0)) (lCons (lTup (lCons (lC (.str "write")) (lCons (lVar 1) (lCons (lVar 2) (lNil))))) lNil)))
theorem w_Disk_write {k : Nat} {sp_is_name : Sp3} {f0 : Addr} {cdv : Value} {A : Around} {outer : List Env} {s : Shared} {H : Hp} {E : XK} (hr : Room k (A.deeper (envOfC d_Disk_write.qual d_Disk_write.scope s.heap.objs.size f0 cdv))) (b : Bi mg) {k_is_name : Nat} (C_is_name : Cal P w K mg base "is_name" k_is_name sp_is_name []) (l_is_name : k_is_name ≤ k) :
    LB (cxOf CX0 P w K mg base N_Disk_write d_Disk_write.qual d_Disk_write.scope f0 cdv A outer s H E).nox [] d_Disk_write.body (t_Disk_write K sp_is_name) :=
  have sc := sc_Disk_write
  lb_cons (ls_if (lt_not (lt_val (le_call C_is_name (hr.mono l_is_name) (la_cons (le_var 1) (la_nil))))) (lb_one (ls_never)) (lb_nil)) (lb_one (ls_expr (le_append (le_fld (le_var 0)) (le_tup (la_cons (le_str) (la_cons (le_var 1) (la_cons (le_var 2) (la_nil))))))))
abbrev N_Disk_erase : List Str := ["self", "name"]
theorem sc_Disk_erase : FnScope N_Disk_erase ["self", "name"] d_Disk_erase.scope := ⟨rfl, rfl, rfl, by decide +kernel, rfl, by decide +kernel, by decide +kernel⟩
def t_Disk_erase (K : PySem.W.Frag) (sp_is_name : Sp3) (c_Disk : Addr) (sp_Disk_as_done : Sp3) : TS3 := sSeq (sIf (lOr (lNot (lTest (lCall sp_is_name [] (lCons (lVar 1) (lNil))))) (lTest (lDIn true (lVar 1) (lMeth c_Disk "as_done" sp_Disk_as_done [] (lVar 0) lNil)))) (sNever) (sNext)) (sDrop (lLm rApp3 (lFld K "queue" (lVar 0)) (lCons (lTup (lCons (lC (.str "erase")) (lCons (lVar 1) (lNil)))) lNil)))
theorem w_Disk_erase {k : Nat} {sp_is_name : Sp3} {c_Disk : Addr} {sp_Disk_as_done : Sp3} {f0 : Addr} {cdv : Value} {A : Around} {outer : List Env} {s : Shared} {H : Hp} {E : XK} (hr : Room k (A.deeper (envOfC d_Disk_erase.qual d_Disk_erase.scope s.heap.objs.size f0 cdv))) (b : Bi mg) {k_is_name : Nat} (C_is_name : Cal P w K mg base "is_name" k_is_name sp_is_name []) (l_is_name : k_is_name ≤ k) {k_Disk_as_done : Nat} (M_Disk_as_done : CalM P w K mg base c_Disk "as_done" k_Disk_as_done sp_Disk_as_done []) (l_Disk_as_done : k_Disk_as_done ≤ k) :
    LB (cxOf CX0 P w K mg base N_Disk_erase d_Disk_erase.qual d_Disk_erase.scope f0 cdv A outer s H E).nox [] d_Disk_erase.body (t_Disk_erase K sp_is_name c_Disk sp_Disk_as_done) :=
  have sc := sc_Disk_erase
  lb_cons (ls_if (PW.pt (lw_or (lt_not (lt_val (le_call C_is_name (hr.mono l_is_name) (la_cons (le_var 1) (la_nil))))) (lw_or1 (lt_dnin (hu_of hr) (le_var 1) (le_meth0 (pl := _) M_Disk_as_done (hr.mono l_Disk_as_done) (le_var 0)))))) (lb_one (ls_never)) (lb_nil)) (lb_one (ls_expr (le_append (le_fld (le_var 0)) (le_tup (la_cons (le_str) (la_cons (le_var 1) (la_nil)))))))
abbrev N_Disk_read : List Str := ["self", "name", "why"]
theorem sc_Disk_read : FnScope N_Disk_read ["self", "name"] d_Disk_read.scope := ⟨rfl, rfl, rfl, by decide +kernel, rfl, by decide +kernel, by decide +kernel⟩
def t_Disk_read (sp_is_name : Sp3) (c_Disk : Addr) (sp_Disk_as_done : Sp3) : TS3 := sSeq (sIf (lNot (lTest (lCall sp_is_name [] (lCons (lVar 1) (lNil))))) (sNever) (sNext)) (sRet (lDIx (lMeth c_Disk "as_done" sp_Disk_as_done [] (lVar 0) lNil) (lVar 1)))
theorem w_Disk_read {k : Nat} {sp_is_name : Sp3} {c_Disk : Addr} {sp_Disk_as_done : Sp3} {f0 : Addr} {cdv : Value} {A : Around} {outer : List Env} {s : Shared} {H : Hp} {E : XK} (hr : Room k (A.deeper (envOfC d_Disk_read.qual d_Disk_read.scope s.heap.objs.size f0 cdv))) (b : Bi mg) (n_KeyError : ∀ X : Cx, X.mg = mg → Gl X "KeyError" → Names X "KeyError" (.type "KeyError")) {k_is_name : Nat} (C_is_name : Cal P w K mg base "is_name" k_is_name sp_is_name []) (l_is_name : k_is_name ≤ k) {k_Disk_as_done : Nat} (M_Disk_as_done : CalM P w K mg base c_Disk "as_done" k_Disk_as_done sp_Disk_as_done []) (l_Disk_as_done : k_Disk_as_done ≤ k) :
    LB (cxOf CX0 P w K mg base N_Disk_read d_Disk_read.qual d_Disk_read.scope f0 cdv A outer s H E).nox [] d_Disk_read.body (t_Disk_read sp_is_name c_Disk sp_Disk_as_done) :=
  have sc := sc_Disk_read
  lb_cons (ls_if (lt_not (lt_val (le_call C_is_name (hr.mono l_is_name) (la_cons (le_var 1) (la_nil))))) (lb_one (ls_never)) (lb_nil)) (lb_one (ls_tryN (i := 2) rfl rfl sc.nd (n_KeyError _ rfl rfl) (fun pn xe => lb_one (ls_ret (le_dix (hu_of hr) (le_meth0 (pl := _) M_Disk_as_done (hr.mono l_Disk_as_done) (le_var 0)) (le_var 1))))))
abbrev N_Disk_names : List Str := ["self"]
theorem sc_Disk_names : FnScope N_Disk_names ["self"] d_Disk_names.scope := ⟨rfl, rfl, rfl, by decide +kernel, rfl, by decide +kernel, by decide +kernel⟩
def t_Disk_names (c_Disk : Addr) (sp_Disk_as_done : Sp3) : TS3 := sRet (lCB rSortD3 (lCons (lMeth c_Disk "as_done" sp_Disk_as_done [] (lVar 0) lNil) (lNil)))
theorem w_Disk_names {k : Nat} {c_Disk : Addr} {sp_Disk_as_done : Sp3} {f0 : Addr} {cdv : Value} {A : Around} {outer : List Env} {s : Shared} {H : Hp} {E : XK} (hr : Room k (A.deeper (envOfC d_Disk_names.qual d_Disk_names.scope s.heap.objs.size f0 cdv))) (b : Bi mg) {k_Disk_as_done : Nat} (M_Disk_as_done : CalM P w K mg base c_Disk "as_done" k_Disk_as_done sp_Disk_as_done []) (l_Disk_as_done : k_Disk_as_done ≤ k) :
    LB (cxOf CX0 P w K mg base N_Disk_names d_Disk_names.qual d_Disk_names.scope f0 cdv A outer s H E).nox [] d_Disk_names.body (t_Disk_names c_Disk sp_Disk_as_done) :=
  have sc := sc_Disk_names
  lb_one (ls_ret (le_callB (call_sortedD rfl) sim_sortD rfl b.sorted boot_sorted (la_cons (le_meth0 (pl := _) M_Disk_as_done (hr.mono l_Disk_as_done) (le_var 0)) (la_nil))))
abbrev N_Disk_waiting : List Str := ["self"]
theorem sc_Disk_waiting : FnScope N_Disk_waiting ["self"] d_Disk_waiting.scope := ⟨rfl, rfl, rfl, by decide +kernel, rfl, by decide +kernel, by decide +kernel⟩
def t_Disk_waiting (K : PySem.W.Frag) : TS3 := sRet (lCB rLen3 (lCons (lFld K "queue" (lVar 0)) (lNil)))
theorem w_Disk_waiting {k : Nat}  {f0 : Addr} {cdv : Value} {A : Around} {outer : List Env} {s : Shared} {H : Hp} {E : XK} (hr : Room k (A.deeper (envOfC d_Disk_waiting.qual d_Disk_waiting.scope s.heap.objs.size f0 cdv))) (b : Bi mg)  :
    LB (cxOf CX0 P w K mg base N_Disk_waiting d_Disk_waiting.qual d_Disk_waiting.scope f0 cdv A outer s H E).nox [] d_Disk_waiting.body (t_Disk_waiting K) :=
  have sc := sc_Disk_waiting
  lb_one (ls_ret (le_callB callr_len sim_len rfl b.len boot_len (la_cons (le_fld (le_var 0)) (la_nil))))
abbrev N_Disk_flush : List Str := ["self"]
theorem sc_Disk_flush : FnScope N_Disk_flush ["self"] d_Disk_flush.scope := ⟨rfl, rfl, rfl, by decide +kernel, rfl, by decide +kernel, by decide +kernel⟩
def t_Disk_flush (K : PySem.W.Frag) (c_Disk : Addr) (sp_Disk_as_done : Sp3) : TS3 := sAsg (lTup (lCons (lMeth c_Disk "as_done" sp_Disk_as_done [] (lVar 0) lNil) (lCons (lLstG (lNil)) (lNil)))) (gTup3 2 (gCons3 (gFld3 K (lVar 0) "files") (gCons3 (gFld3 K (lVar 0) "queue") (gNil3))))
theorem w_Disk_flush {k : Nat} {c_Disk : Addr} {sp_Disk_as_done : Sp3} {f0 : Addr} {cdv : Value} {A : Around} {outer : List Env} {s : Shared} {H : Hp} {E : XK} (hr : Room k (A.deeper (envOfC d_Disk_flush.qual d_Disk_flush.scope s.heap.objs.size f0 cdv))) (b : Bi mg) {k_Disk_as_done : Nat} (M_Disk_as_done : CalM P w K mg base c_Disk "as_done" k_Disk_as_done sp_Disk_as_done []) (l_Disk_as_done : k_Disk_as_done ≤ k) :
    LB (cxOf CX0 P w K mg base N_Disk_flush d_Disk_flush.qual d_Disk_flush.scope f0 cdv A outer s H E).nox [] d_Disk_flush.body (t_Disk_flush K c_Disk sp_Disk_as_done) :=
  have sc := sc_Disk_flush
  lb_one (ls_asg (le_tup (la_cons (le_meth0 (pl := _) M_Disk_as_done (hr.mono l_Disk_as_done) (le_var 0)) (la_cons (le_lstG (la_nil)) (la_nil)))) (lg_tup rfl (lgs_cons (lg_fld (ms := []) (le_var 0)) (lgs_cons (lg_fld (ms := []) (le_var 0)) (lgs_nil (ms := []))))))
abbrev N_Disk_look_picks : List Str := ["self", "picks", "at", "pick"]
theorem sc_Disk_look_picks : FnScope N_Disk_look_picks ["self", "picks"] d_Disk_look_picks.scope := ⟨rfl, rfl, rfl, by decide +kernel, rfl, by decide +kernel, by decide +kernel⟩
def t_Disk_look_picks (K : PySem.W.Frag) (sp_most_pick : Sp3) : TS3 := sSeq (sIf (lNot (lTest (lIsi2 .list .tuple (lVar 1)))) (sNever) (sNext)) (sFor (iEnumQ3 (lVar 1)) (gTup3 2 (gCons3 (gName3 2) (gCons3 (gName3 3) (gNil3)))) (sSeq (sIf (lOr (lTest (lOp rGe3 (lVar 2) (lCB rLen3 (lCons (lFld K "queue" (lVar 0)) (lNil))))) (lOr (lNot (lTest (lIsi .int (lVar 3)))) (lTest (lIsi .bool (lVar 3))))) (sNever) (sNext)) (sIf (lNot (lTest (lChain rLe3 rLe3 (lC (.int 0)) (lVar 3) (lCall sp_most_pick [] (lCons (lOp rIx3 (lFld K "queue" (lVar 0)) (lVar 2)) (lNil)))))) (sNever) (sNext))))
theorem w_Disk_look_picks {k : Nat} {sp_most_pick : Sp3} {f0 : Addr} {cdv : Value} {A : Around} {outer : List Env} {s : Shared} {H : Hp} {E : XK} (hr : Room k (A.deeper (envOfC d_Disk_look_picks.qual d_Disk_look_picks.scope s.heap.objs.size f0 cdv))) (b : Bi mg) {k_most_pick : Nat} (C_most_pick : Cal P w K mg base "most_pick" k_most_pick sp_most_pick []) (l_most_pick : k_most_pick ≤ k) :
    LB (cxOf CX0 P w K mg base N_Disk_look_picks d_Disk_look_picks.qual d_Disk_look_picks.scope f0 cdv A outer s H E).nox [] d_Disk_look_picks.body (t_Disk_look_picks K sp_most_pick) :=
  have sc := sc_Disk_look_picks
  lb_cons (ls_if (lt_not (lt_val (le_isi2 .list .tuple rfl b.isinstance rfl b.list PyProof.Rows.boot_list rfl b.tuple PyProof.Rows.boot_tuple (le_var 1)))) (lb_one (ls_never)) (lb_nil)) (lb_one (ls_for rfl (li_enumQ rfl b.enumerate (le_var 1)) (lg_tup rfl (lgs_cons (lg_name (ms := [2, 3]) 2 sc.nd) (lgs_cons (lg_name (ms := [2, 3]) 3 sc.nd) (lgs_nil (ms := [2, 3]))))) (lb_cons (ls_if (PW.pt (lw_or (lt_cmp op_ge sim_B0 (le_var 2) (le_callB callr_len sim_len rfl b.len boot_len (la_cons (le_fld (le_var 0)) (la_nil))) (nomark _)) (lw_or (lt_not (lt_val (le_isi .int rfl b.isinstance rfl b.int PyProof.Rows.boot_int (le_var 3)))) (lw_or1 (lt_val (le_isi .bool rfl b.isinstance rfl b.bool PyProof.Rows.boot_bool (le_var 3))))))) (lb_one (ls_never)) (lb_nil)) (lb_one (ls_if (lt_not (lt_chain op_le sim_B0 op_le sim_B0 (le_int) (le_var 3) (le_call C_most_pick (hr.mono l_most_pick) (la_cons (le_ix (le_fld (le_var 0)) (le_var 2)) (la_nil))))) (lb_one (ls_never)) (lb_nil))))))
abbrev N_Disk_crash : List Str := ["self", "picks", "at", "pick"]
theorem sc_Disk_crash : FnScope N_Disk_crash ["self", "picks"] d_Disk_crash.scope := ⟨rfl, rfl, rfl, by decide +kernel, rfl, by decide +kernel, by decide +kernel⟩
def t_Disk_crash (K : PySem.W.Frag) (sp_changed : Sp3) (c_Disk : Addr) (sp_Disk_look_picks : Sp3) : TS3 := sSeq (sDrop (lMeth c_Disk "look_picks" sp_Disk_look_picks [] (lVar 0) (lCons (lVar 1) (lNil)))) (sSeq (sFor (iEnumQ3 (lVar 1)) (gTup3 2 (gCons3 (gName3 2) (gCons3 (gName3 3) (gNil3)))) (sIf (lTest (lOp rGt3 (lVar 3) (lC (.int 0)))) (sDrop (lCall sp_changed [] (lCons (lFld K "files" (lVar 0)) (lCons (lOp rIx3 (lFld K "queue" (lVar 0)) (lVar 2)) (lCons (lVar 3) (lNil)))))) (sNext))) (sFld3 K (lVar 0) (lLstG (lNil)) "queue"))
theorem w_Disk_crash {k : Nat} {sp_changed : Sp3} {c_Disk : Addr} {sp_Disk_look_picks : Sp3} {f0 : Addr} {cdv : Value} {A : Around} {outer : List Env} {s : Shared} {H : Hp} {E : XK} (hr : Room k (A.deeper (envOfC d_Disk_crash.qual d_Disk_crash.scope s.heap.objs.size f0 cdv))) (b : Bi mg) {k_changed : Nat} (C_changed : Cal P w K mg base "changed" k_changed sp_changed []) (l_changed : k_changed ≤ k) {k_Disk_look_picks : Nat} (M_Disk_look_picks : CalM P w K mg base c_Disk "look_picks" k_Disk_look_picks sp_Disk_look_picks []) (l_Disk_look_picks : k_Disk_look_picks ≤ k) :
    LB (cxOf CX0 P w K mg base N_Disk_crash d_Disk_crash.qual d_Disk_crash.scope f0 cdv A outer s H E).nox [] d_Disk_crash.body (t_Disk_crash K sp_changed c_Disk sp_Disk_look_picks) :=
  have sc := sc_Disk_crash
  lb_cons (ls_expr (le_meth (pl := _) M_Disk_look_picks (hr.mono l_Disk_look_picks) (le_var 0) (la_cons (le_var 1) (la_nil)))) (lb_cons (ls_for rfl (li_enumQ rfl b.enumerate (le_var 1)) (lg_tup rfl (lgs_cons (lg_name (ms := [2, 3]) 2 sc.nd) (lgs_cons (lg_name (ms := [2, 3]) 3 sc.nd) (lgs_nil (ms := [2, 3]))))) (lb_one (ls_if (lt_cmp op_gt sim_B0 (le_var 3) (le_int) (nomark _)) (lb_one (ls_expr (le_call C_changed (hr.mono l_changed) (la_cons (le_fld (le_var 0)) (la_cons (le_ix (le_fld (le_var 0)) (le_var 2)) (la_cons (le_var 3) (la_nil))))))) (lb_nil)))) (lb_one (ls_fld (le_var 0) (le_lstG (la_nil)))))
abbrev N__law_purse : List Str := ["_law_script", "_law_at", "_law_cell", "_law_far"]
theorem sc__law_purse : FnScope N__law_purse ["_law_script", "_law_at"] d__law_purse.scope := ⟨rfl, rfl, rfl, by decide +kernel, rfl, by decide +kernel, by decide +kernel⟩
def t__law_purse  : TS3 := sSeq (sAsg (lC (.int 0)) (gName3 2)) (sSeq (sIf (lTest (lOp rLt3 (lVar 1) (lCB rLen3 (lCons (lVar 0) (lNil))))) (sAsg (lOp rIx3 (lVar 0) (lVar 1)) (gName3 2)) (sNext)) (sSeq (sAsg (lCB rAbs3 (lCons (lVar 2) (lNil))) (gName3 3)) (sRet (lLstG (lCons (lOp rMul3 (lVar 3) (lCB rInt3' (lCons (lOp rGe3 (lVar 3) (lOp rPow3 (lC (.int 10)) (lC (.int 18)))) (lNil)))) (lCons (lOp rMod3 (lOp rAdd3 (lOp rAdd3 (lOp rMod3 (lVar 2) (lC (.int 2147483647))) (lOp rMul3 (lC (.int 7919)) (lVar 1))) (lC (.int 17))) (lC (.int 2147483647))) (lCons (lC (.int 0)) (lNil))))))))
theorem w__law_purse {k : Nat}  {f0 : Addr} {cdv : Value} {A : Around} {outer : List Env} {s : Shared} {H : Hp} {E : XK} (hr : Room k (A.deeper (envOfC d__law_purse.qual d__law_purse.scope s.heap.objs.size f0 cdv))) (b : Bi mg)  :
    LB (cxOf CX0 P w K mg base N__law_purse d__law_purse.qual d__law_purse.scope f0 cdv A outer s H E).nox [] d__law_purse.body (t__law_purse ) :=
  have sc := sc__law_purse
  lb_cons (ls_set 2 sc.nd (le_int)) (lb_cons (ls_if (lt_cmp op_lt sim_B0 (le_var 1) (le_callB callr_len sim_len rfl b.len boot_len (la_cons (le_var 0) (la_nil))) (nomark _)) (lb_one (ls_set 2 sc.nd (le_ix (le_var 0) (le_var 1)))) (lb_nil)) (lb_cons (ls_set 3 sc.nd (le_callB call_abs sim_abs rfl b.abs boot_abs (la_cons (le_var 2) (la_nil)))) (lb_one (ls_ret (le_lstG (la_cons (le_op op_mul sim_I (le_var 3) (le_callTy call_int1 sim_int rfl b.int boot_int (la_cons (le_cmp op_ge sim_B0 (le_var 3) (le_op op_pow sim_I (le_int) (le_int)) (nomark _)) (la_nil)))) (la_cons (le_op op_mod sim_I (le_op opr_add sim_add (le_op opr_add sim_add (le_op op_mod sim_I (le_var 2) (le_int)) (le_op op_mul sim_I (le_int) (le_var 1))) (le_int)) (le_int)) (la_cons (le_int) (la_nil)))))))))
abbrev N__law_take : List Str := ["_law_purse_here", "_law_many", "_law_digit", "_law_turn", "_law_one", "_law_other"]
theorem sc__law_take : FnScope N__law_take ["_law_purse_here", "_law_many"] d__law_take.scope := ⟨rfl, rfl, rfl, by decide +kernel, rfl, by decide +kernel, by decide +kernel⟩
def t__law_take  : TS3 := sSeq (sIf (lTest (lOp rGt3 (lOp rIx3 (lVar 0) (lC (.int 0))) (lC (.int 0)))) (sSeq (sAsg (lOp rMod3 (lOp rIx3 (lVar 0) (lC (.int 0))) (lVar 1)) (gName3 2)) (sSeq (sAsg (lOp rDiv3 (lOp rIx3 (lVar 0) (lC (.int 0))) (lVar 1)) (gSub3 (lVar 0) (lC (.int 0)))) (sRet (lVar 2)))) (sNext)) (sSeq (sAsg (lOp rAdd3 (lOp rIx3 (lVar 0) (lC (.int 2))) (lC (.int 1))) (gSub3 (lVar 0) (lC (.int 2)))) (sSeq (sAsg (lOp rIx3 (lVar 0) (lC (.int 2))) (gName3 3)) (sSeq (sAsg (lOp rMod3 (lOp rPow3 (lOp rAdd3 (lOp rAdd3 (lOp rIx3 (lVar 0) (lC (.int 1))) (lOp rMul3 (lOp rMul3 (lC (.int 48271)) (lVar 3)) (lVar 3))) (lC (.int 1))) (lC (.int 5))) (lC (.int 2147483647))) (gName3 4)) (sSeq (sAsg (lOp rMod3 (lOp rPow3 (lOp rAdd3 (lOp rMul3 (lVar 4) (lOp rAdd3 (lOp rMul3 (lC (.int 2)) (lVar 3)) (lC (.int 30011)))) (lVar 3)) (lC (.int 3))) (lC (.int 998244353))) (gName3 5)) (sRet (lOp rMod3 (lOp rDiv3 (lOp rAdd3 (lOp rMul3 (lVar 4) (lC (.int 998244353))) (lVar 5)) (lC (.int 1009))) (lVar 1)))))))
theorem w__law_take {k : Nat}  {f0 : Addr} {cdv : Value} {A : Around} {outer : List Env} {s : Shared} {H : Hp} {E : XK} (hr : Room k (A.deeper (envOfC d__law_take.qual d__law_take.scope s.heap.objs.size f0 cdv))) (b : Bi mg)  :
    LB (cxOf CX0 P w K mg base N__law_take d__law_take.qual d__law_take.scope f0 cdv A outer s H E).nox [] d__law_take.body (t__law_take ) :=
  have sc := sc__law_take
  lb_cons (ls_if (lt_cmp op_gt sim_B0 (le_ix (le_var 0) (le_int)) (le_int) (nomark _)) (lb_cons (ls_set 2 sc.nd (le_op op_mod sim_I (le_ix (le_var 0) (le_int)) (le_var 1))) (lb_cons (ls_asg (le_op op_fdiv sim_I (le_ix (le_var 0) (le_int)) (le_var 1)) (lg_sub (ms := []) (le_var 0) (le_int))) (lb_one (ls_ret (le_var 2))))) (lb_nil)) (lb_cons (ls_asg (le_op opr_add sim_add (le_ix (le_var 0) (le_int)) (le_int)) (lg_sub (ms := []) (le_var 0) (le_int))) (lb_cons (ls_set 3 sc.nd (le_ix (le_var 0) (le_int))) (lb_cons (ls_set 4 sc.nd (le_op op_mod sim_I (le_op op_pow sim_I (le_op opr_add sim_add (le_op opr_add sim_add (le_ix (le_var 0) (le_int)) (le_op op_mul sim_I (le_op op_mul sim_I (le_int) (le_var 3)) (le_var 3))) (le_int)) (le_int)) (le_int))) (lb_cons (ls_set 5 sc.nd (le_op op_mod sim_I (le_op op_pow sim_I (le_op opr_add sim_add (le_op op_mul sim_I (le_var 4) (le_op opr_add sim_add (le_op op_mul sim_I (le_int) (le_var 3)) (le_int))) (le_var 3)) (le_int)) (le_int))) (lb_one (ls_ret (le_op op_mod sim_I (le_op op_fdiv sim_I (le_op opr_add sim_add (le_op op_mul sim_I (le_var 4) (le_int)) (le_var 5)) (le_int)) (le_var 1))))))))
abbrev N__law_row : List Str := ["_law_purse_here", "_law_most", "_law_signs", "_law_k"]
theorem sc__law_row : FnScope N__law_row ["_law_purse_here", "_law_most"] d__law_row.scope := ⟨rfl, rfl, rfl, by decide +kernel, rfl, by decide +kernel, by decide +kernel⟩
def t__law_row (sp__law_take : Sp3) : TS3 := sSeq (sAsg (lC (.str " !#$&'()*+,-./0123456789:;<=>?@ABCXYZ[]^_abcdefxyz{|}~")) (gName3 2)) (sRet (lJoin (lC (.str "")) (lLc (iRg1 (lCall sp__law_take [] (lCons (lVar 0) (lCons (lOp rAdd3 (lVar 1) (lC (.int 1))) (lNil))))) (gName3 3) (tYes3) (lOp rIx3 (lVar 2) (lCall sp__law_take [] (lCons (lVar 0) (lCons (lCB rLen3 (lCons (lVar 2) (lNil))) (lNil))))) [3])))
theorem w__law_row {k : Nat} {sp__law_take : Sp3} {f0 : Addr} {cdv : Value} {A : Around} {outer : List Env} {s : Shared} {H : Hp} {E : XK} (hr : Room k (A.deeper (envOfC d__law_row.qual d__law_row.scope s.heap.objs.size f0 cdv))) (b : Bi mg) {k__law_take : Nat} (C__law_take : Cal P w K mg base "_law_take" k__law_take sp__law_take []) (l__law_take : k__law_take ≤ k) :
    LB (cxOf CX0 P w K mg base N__law_row d__law_row.qual d__law_row.scope f0 cdv A outer s H E).nox [] d__law_row.body (t__law_row sp__law_take) :=
  have sc := sc__law_row
  lb_cons (ls_set 2 sc.nd (le_str)) (lb_one (ls_ret (le_join (le_str) (le_lc [("_law_k", 3)] rfl sc.nd (li_range1 rfl b.range (le_call C__law_take (hr.mono l__law_take) (la_cons (le_var 0) (la_cons (le_op opr_add sim_add (le_var 1) (le_int)) (la_nil))))) (blkOk_by (N := N__law_row) (sc := d__law_row.scope) (by decide +kernel)) (fun _ _ _ _ _ => lg_name (ms := [3]) 3 sc.nd) (fun _ _ _ _ _ => lts_nil) (fun _ _ _ _ _ => le_ix (le_var 2) (le_call C__law_take (hr.mono l__law_take) (la_cons (le_var 0) (la_cons (le_callB callr_len sim_len rfl b.len boot_len (la_cons (le_var 2) (la_nil))) (la_nil)))))))))
abbrev N__law_done : List Str := ["_law_files", "_law_deeds", "_law_chosen", "_law_found", "_law_deed", "_law_pick"]
theorem sc__law_done : FnScope N__law_done ["_law_files", "_law_deeds", "_law_chosen"] d__law_done.scope := ⟨rfl, rfl, rfl, by decide +kernel, rfl, by decide +kernel, by decide +kernel⟩
def t__law_done  : TS3 := sSeq (sAsg (lCB rDCopy3 (lCons (lVar 0) (lNil))) (gName3 3)) (sSeq (sForP (iZipL (lVar 1) (lVar 2)) (gTup3 2 (gCons3 (gName3 4) (gCons3 (gName3 5) (gNil3)))) (sIf (lAnd (lTest (lOp rGt3 (lVar 5) (lC (.int 0)))) (lTest (lOp rEq3 (lOp rIx3 (lVar 4) (lC (.int 0))) (lC (.str "erase"))))) (sIf (lTest (lDIn false (lOp rIx3 (lVar 4) (lC (.int 1))) (lVar 3))) (sDrop (lDPop1 (lVar 3) (lOp rIx3 (lVar 4) (lC (.int 1))))) (sNext)) (sIf (lTest (lOp rGt3 (lVar 5) (lC (.int 0)))) (sAsg (lSl rSl3 (lOp rIx3 (lVar 4) (lC (.int 2))) (lNoPart) (lPart (lOp rSub3 (lVar 5) (lC (.int 1))))) (gDSub (lVar 3) (lOp rIx3 (lVar 4) (lC (.int 1))))) (sNext)))) (sFrz 3 (sRet (lVar 3))))
theorem w__law_done {k : Nat}  {f0 : Addr} {cdv : Value} {A : Around} {outer : List Env} {s : Shared} {H : Hp} {E : XK} (hr : Room k (A.deeper (envOfC d__law_done.qual d__law_done.scope s.heap.objs.size f0 cdv))) (b : Bi mg)  :
    LB (cxOf CX0 P w K mg base N__law_done d__law_done.qual d__law_done.scope f0 cdv A outer s H E).nox [] d__law_done.body (t__law_done ) :=
  have sc := sc__law_done
  lb_cons (ls_set 3 sc.nd (le_callTy call_dictD sim_dcopy rfl b.dict boot_dict (la_cons (le_var 0) (la_nil)))) (lb_cons (ls_forP rfl (lip_zip rfl b.zip (le_var 1) (le_var 2)) (lg_tup rfl (lgs_cons (lg_name (ms := [4, 5]) 4 sc.nd) (lgs_cons (lg_name (ms := [4, 5]) 5 sc.nd) (lgs_nil (ms := [4, 5]))))) (lb_one (ls_if (PW.pt (lw_and (lt_cmp op_gt sim_B0 (le_var 5) (le_int) (nomark _)) (lw_and1 (lt_cmp (opr_eq hr.units) sim_eq (le_ix (le_var 4) (le_int)) (le_str) (nomark _))))) (lb_one (ls_if (lt_din (hu_of hr) (le_ix (le_var 4) (le_int)) (le_var 3)) (lb_one (ls_expr (le_dpop1 (le_var 3) (le_ix (le_var 4) (le_int))))) (lb_nil))) (lb_one (ls_if (lt_cmp op_gt sim_B0 (le_var 5) (le_int) (nomark _)) (lb_one (ls_asg (le_slice (le_ix (le_var 4) (le_int)) (lo_none) (lo_some (le_op op_sub sim_I0 (le_var 5) (le_int)))) (lg_dsub (ms := []) (hu_of hr) (le_var 3) (le_ix (le_var 4) (le_int))))) (lb_nil)))))) (lb_frz 3 (lb_one (ls_ret (le_var 3)))))
abbrev N__law_full : List Str := ["_law_deeds", "_law_deed"]
theorem sc__law_full : FnScope N__law_full ["_law_deeds"] d__law_full.scope := ⟨rfl, rfl, rfl, by decide +kernel, rfl, by decide +kernel, by decide +kernel⟩
def t__law_full  : TS3 := sRet (lLcP (iLive (lVar 0)) (gName3 1) (tYes3) (lOp rIx3 (lLst (lCons (lOp rAdd3 (lCB rLen3 (lCons (lOp rIx3 (lVar 1) (lNeg (lC (.int 1)))) (lNil))) (lC (.int 1))) (lCons (lC (.int 1)) (lNil)))) (lCB rInt3' (lCons (lOp rEq3 (lOp rIx3 (lVar 1) (lC (.int 0))) (lC (.str "erase"))) (lNil)))) [1])
theorem w__law_full {k : Nat}  {f0 : Addr} {cdv : Value} {A : Around} {outer : List Env} {s : Shared} {H : Hp} {E : XK} (hr : Room k (A.deeper (envOfC d__law_full.qual d__law_full.scope s.heap.objs.size f0 cdv))) (b : Bi mg)  :
    LB (cxOf CX0 P w K mg base N__law_full d__law_full.qual d__law_full.scope f0 cdv A outer s H E).nox [] d__law_full.body (t__law_full ) :=
  have sc := sc__law_full
  lb_one (ls_ret (le_lcP [("_law_deed", 1)] rfl sc.nd (lip_list (le_var 0)) (blkOk_by (N := N__law_full) (sc := d__law_full.scope) (by decide +kernel)) (fun _ _ _ _ _ => lg_name (ms := [1]) 1 sc.nd) (fun _ _ _ _ _ => lts_nil) (fun _ _ _ _ _ => le_ix (le_lst (la_cons (le_op opr_add sim_add (le_callB callr_len sim_len rfl b.len boot_len (la_cons (le_ix (le_var 1) (le_neg (le_int))) (la_nil))) (le_int)) (la_cons (le_int) (la_nil)))) (le_callTy call_int1 sim_int rfl b.int boot_int (la_cons (le_cmp (opr_eq hr.units) sim_eq (le_ix (le_var 1) (le_int)) (le_str) (nomark _)) (la_nil))))))
abbrev N__law_seen : List Str := ["_law_files", "_law_deeds"]
theorem sc__law_seen : FnScope N__law_seen ["_law_files", "_law_deeds"] d__law_seen.scope := ⟨rfl, rfl, rfl, by decide +kernel, rfl, by decide +kernel, by decide +kernel⟩
def t__law_seen (sp__law_done : Sp3) (sp__law_full : Sp3) : TS3 := sRet (lCall sp__law_done [] (lCons (lVar 0) (lCons (lVar 1) (lCons (lCall sp__law_full [] (lCons (lVar 1) (lNil))) (lNil)))))
theorem w__law_seen {k : Nat} {sp__law_done : Sp3} {sp__law_full : Sp3} {f0 : Addr} {cdv : Value} {A : Around} {outer : List Env} {s : Shared} {H : Hp} {E : XK} (hr : Room k (A.deeper (envOfC d__law_seen.qual d__law_seen.scope s.heap.objs.size f0 cdv))) (b : Bi mg) {k__law_done : Nat} (C__law_done : Cal P w K mg base "_law_done" k__law_done sp__law_done []) (l__law_done : k__law_done ≤ k) {k__law_full : Nat} (C__law_full : Cal P w K mg base "_law_full" k__law_full sp__law_full []) (l__law_full : k__law_full ≤ k) :
    LB (cxOf CX0 P w K mg base N__law_seen d__law_seen.qual d__law_seen.scope f0 cdv A outer s H E).nox [] d__law_seen.body (t__law_seen sp__law_done sp__law_full) :=
  have sc := sc__law_seen
  lb_one (ls_ret (le_call C__law_done (hr.mono l__law_done) (la_cons (le_var 0) (la_cons (le_var 1) (la_cons (le_call C__law_full (hr.mono l__law_full) (la_cons (le_var 1) (la_nil))) (la_nil))))))
abbrev N__law_waiting : List Str := ["_law_purse_here", "_law_disk", "_law_files", "_law_many", "_law_deeds", "_law_turn", "_law_name", "_law_text"]
theorem sc__law_waiting : FnScope N__law_waiting ["_law_purse_here", "_law_disk", "_law_files", "_law_many"] d__law_waiting.scope := ⟨rfl, rfl, rfl, by decide +kernel, rfl, by decide +kernel, by decide +kernel⟩
def t__law_waiting (sp__law_take : Sp3) (sp__law_row : Sp3) (sp__law_seen : Sp3) (c_Disk : Addr) (sp_Disk_erase : Sp3) (sp_Disk_write : Sp3) : TS3 := sSeq (sAsg (lLstG (lNil)) (gName3 4)) (sSeq (sFor (iRg1 (lVar 3)) (gName3 5) (sSeq (sAsg (lOp rIx3 (lLst (lCons (lC (.str "h1")) (lCons (lC (.str "h2")) (lCons (lC (.str "s1.0")) (lCons (lC (.str "a")) (lNil)))))) (lCall sp__law_take [] (lCons (lVar 0) (lCons (lC (.int 4)) (lNil))))) (gName3 6)) (sSeq (sAsg (lCall sp__law_row [] (lCons (lVar 0) (lCons (lC (.int 12)) (lNil)))) (gName3 7)) (sIf (lAnd (lTest (lOp rEq3 (lCall sp__law_take [] (lCons (lVar 0) (lCons (lC (.int 3)) (lNil)))) (lC (.int 2)))) (lTest (lDIn false (lVar 6) (lCall sp__law_seen [] (lCons (lVar 2) (lCons (lVar 4) (lNil))))))) (sSeq (sDrop (lMeth c_Disk "erase" sp_Disk_erase [] (lVar 1) (lCons (lVar 6) (lNil)))) (sDrop (lLm rApp3 (lVar 4) (lCons (lTup (lCons (lC (.str "erase")) (lCons (lVar 6) (lNil)))) lNil)))) (sSeq (sDrop (lMeth c_Disk "write" sp_Disk_write [] (lVar 1) (lCons (lVar 6) (lCons (lVar 7) (lNil))))) (sDrop (lLm rApp3 (lVar 4) (lCons (lTup (lCons (lC (.str "write")) (lCons (lVar 6) (lCons (lVar 7) (lNil))))) lNil)))))))) (sFrz 4 (sRet (lVar 4))))
theorem w__law_waiting {k : Nat} {sp__law_take : Sp3} {sp__law_row : Sp3} {sp__law_seen : Sp3} {c_Disk : Addr} {sp_Disk_erase : Sp3} {sp_Disk_write : Sp3} {f0 : Addr} {cdv : Value} {A : Around} {outer : List Env} {s : Shared} {H : Hp} {E : XK} (hr : Room k (A.deeper (envOfC d__law_waiting.qual d__law_waiting.scope s.heap.objs.size f0 cdv))) (b : Bi mg) {k__law_take : Nat} (C__law_take : Cal P w K mg base "_law_take" k__law_take sp__law_take []) (l__law_take : k__law_take ≤ k) {k__law_row : Nat} (C__law_row : Cal P w K mg base "_law_row" k__law_row sp__law_row []) (l__law_row : k__law_row ≤ k) {k__law_seen : Nat} (C__law_seen : Cal P w K mg base "_law_seen" k__law_seen sp__law_seen []) (l__law_seen : k__law_seen ≤ k) {k_Disk_erase : Nat} (M_Disk_erase : CalM P w K mg base c_Disk "erase" k_Disk_erase sp_Disk_erase []) (l_Disk_erase : k_Disk_erase ≤ k) {k_Disk_write : Nat} (M_Disk_write : CalM P w K mg base c_Disk "write" k_Disk_write sp_Disk_write []) (l_Disk_write : k_Disk_write ≤ k) :
    LB (cxOf CX0 P w K mg base N__law_waiting d__law_waiting.qual d__law_waiting.scope f0 cdv A outer s H E).nox [] d__law_waiting.body (t__law_waiting sp__law_take sp__law_row sp__law_seen c_Disk sp_Disk_erase sp_Disk_write) :=
  have sc := sc__law_waiting
  lb_cons (ls_set 4 sc.nd (le_lstG (la_nil))) (lb_cons (ls_for rfl (li_range1 rfl b.range (le_var 3)) (lg_name (ms := [5]) 5 sc.nd) (lb_cons (ls_set 6 sc.nd (le_ix (le_lst (la_cons (le_str) (la_cons (le_str) (la_cons (le_str) (la_cons (le_str) (la_nil)))))) (le_call C__law_take (hr.mono l__law_take) (la_cons (le_var 0) (la_cons (le_int) (la_nil)))))) (lb_cons (ls_set 7 sc.nd (le_call C__law_row (hr.mono l__law_row) (la_cons (le_var 0) (la_cons (le_int) (la_nil))))) (lb_one (ls_if (PW.pt (lw_and (lt_cmp (opr_eq hr.units) sim_eq (le_call C__law_take (hr.mono l__law_take) (la_cons (le_var 0) (la_cons (le_int) (la_nil)))) (le_int) (nomark _)) (lw_and1 (lt_din (hu_of hr) (le_var 6) (le_call C__law_seen (hr.mono l__law_seen) (la_cons (le_var 2) (la_cons (le_var 4) (la_nil)))))))) (lb_cons (ls_expr (le_meth (pl := _) M_Disk_erase (hr.mono l_Disk_erase) (le_var 1) (la_cons (le_var 6) (la_nil)))) (lb_one (ls_expr (le_append (le_var 4) (le_tup (la_cons (le_str) (la_cons (le_var 6) (la_nil)))))))) (lb_cons (ls_expr (le_meth (pl := _) M_Disk_write (hr.mono l_Disk_write) (le_var 1) (la_cons (le_var 6) (la_cons (le_var 7) (la_nil))))) (lb_one (ls_expr (le_append (le_var 4) (le_tup (la_cons (le_str) (la_cons (le_var 6) (la_cons (le_var 7) (la_nil)))))))))))))) (lb_frz 4 (lb_one (ls_ret (le_var 4)))))
abbrev N__law_picks : List Str := ["_law_purse_here", "_law_deeds", "_law_full_here", "_law_chosen", "_law_most", "_law_pick", "_law_at", "_law_odd"]
theorem sc__law_picks : FnScope N__law_picks ["_law_purse_here", "_law_deeds"] d__law_picks.scope := ⟨rfl, rfl, rfl, by decide +kernel, rfl, by decide +kernel, by decide +kernel⟩
def t__law_picks (sp__law_full : Sp3) (sp__law_take : Sp3) : TS3 := sSeq (sAsg (lCall sp__law_full [] (lCons (lVar 1) (lNil))) (gName3 2)) (sSeq (sAsg (lLc (iLst3 (lSl rSl3 (lVar 2) (lNoPart) (lPart (lCall sp__law_take [] (lCons (lVar 0) (lCons (lOp rAdd3 (lCB rLen3 (lCons (lVar 2) (lNil))) (lC (.int 1))) (lNil))))))) (gName3 4) (tYes3) (lCall sp__law_take [] (lCons (lVar 0) (lCons (lOp rAdd3 (lVar 4) (lC (.int 1))) (lNil)))) [4]) (gName3 3)) (sSeq (sIf (lTest (lOp rEq3 (lCall sp__law_take [] (lCons (lVar 0) (lCons (lC (.int 2)) (lNil)))) (lC (.int 1)))) (sAsg (lLc (iZip3 (lVar 3) (lVar 2)) (gTup3 2 (gCons3 (gName3 5) (gCons3 (gName3 4) (gNil3)))) (tYes3) (lOp rIx3 (lLst (lCons (lVar 5) (lCons (lVar 4) (lCons (lC (.int 0)) (lNil))))) (lCall sp__law_take [] (lCons (lVar 0) (lCons (lC (.int 3)) (lNil))))) [5, 4]) (gName3 3)) (sNext)) (sSeq (sIf (lTest (lOp rEq3 (lCall sp__law_take [] (lCons (lVar 0) (lCons (lC (.int 4)) (lNil)))) (lC (.int 3)))) (sSeq (sAsg (lCall sp__law_take [] (lCons (lVar 0) (lCons (lOp rAdd3 (lCB rLen3 (lCons (lVar 3) (lNil))) (lC (.int 1))) (lNil)))) (gName3 6)) (sSeq (sAsg (lOp rIx3 (lOp rAdd3 (lVar 2) (lLst (lCons (lC (.int 0)) (lNil)))) (lVar 6)) (gName3 4)) (sSeq (sAsg (lOp rIx3 (lLst (lCons (lOp rAdd3 (lVar 4) (lC (.int 1))) (lCons (lNeg (lC (.int 1))) (lCons (lC (.bl true)) (lCons (lC .non) (lCons (lC (.str "1")) (lCons (lTup (lCons (lC (.int 1)) (lNil))) (lCons (lOp rAdd3 (lVar 4) (lOp rPow3 (lC (.int 10)) (lC (.int 20)))) (lCons (lC (.bl false)) (lNil)))))))))) (lCall sp__law_take [] (lCons (lVar 0) (lCons (lC (.int 8)) (lNil))))) (gName3 7)) (sAsg (lOp rAdd3 (lOp rAdd3 (lSl rSl3 (lVar 3) (lNoPart) (lPart (lVar 6))) (lLst (lCons (lVar 7) (lNil)))) (lSl rSl3 (lVar 3) (lPart (lOp rAdd3 (lVar 6) (lC (.int 1)))) (lNoPart))) (gName3 3))))) (sNext)) (sSeq (sIf (lTest (lOp rEq3 (lCall sp__law_take [] (lCons (lVar 0) (lCons (lC (.int 8)) (lNil)))) (lC (.int 5)))) (sAsg (lOp rAdd3 (lVar 3) (lOp rMulL3 (lLst (lCons (lC (.int 0)) (lNil))) (lOp rSub3 (lOp rAdd3 (lC (.int 1)) (lCB rLen3 (lCons (lVar 1) (lNil)))) (lCB rLen3 (lCons (lVar 3) (lNil)))))) (gName3 3)) (sNext)) (sRet (lVar 3))))))
theorem w__law_picks {k : Nat} {sp__law_full : Sp3} {sp__law_take : Sp3} {f0 : Addr} {cdv : Value} {A : Around} {outer : List Env} {s : Shared} {H : Hp} {E : XK} (hr : Room k (A.deeper (envOfC d__law_picks.qual d__law_picks.scope s.heap.objs.size f0 cdv))) (b : Bi mg) {k__law_full : Nat} (C__law_full : Cal P w K mg base "_law_full" k__law_full sp__law_full []) (l__law_full : k__law_full ≤ k) {k__law_take : Nat} (C__law_take : Cal P w K mg base "_law_take" k__law_take sp__law_take []) (l__law_take : k__law_take ≤ k) :
    LB (cxOf CX0 P w K mg base N__law_picks d__law_picks.qual d__law_picks.scope f0 cdv A outer s H E).nox [] d__law_picks.body (t__law_picks sp__law_full sp__law_take) :=
  have sc := sc__law_picks
  lb_cons (ls_set 2 sc.nd (le_call C__law_full (hr.mono l__law_full) (la_cons (le_var 1) (la_nil)))) (lb_cons (ls_setLc 3 [("_law_most", 4)] rfl sc.nd (li_lst (le_slice (le_var 2) (lo_none) (lo_some (le_call C__law_take (hr.mono l__law_take) (la_cons (le_var 0) (la_cons (le_op opr_add sim_add (le_callB callr_len sim_len rfl b.len boot_len (la_cons (le_var 2) (la_nil))) (le_int)) (la_nil))))))) (blkOk_by (N := N__law_picks) (sc := d__law_picks.scope) (by decide +kernel)) (fun _ _ _ _ _ => lg_name (ms := [4]) 4 sc.nd) (fun _ _ _ _ _ => lts_nil) (fun _ _ _ _ _ => le_call C__law_take (hr.mono l__law_take) (la_cons (le_var 0) (la_cons (le_op opr_add sim_add (le_var 4) (le_int)) (la_nil)))) (sw_true rfl rfl rfl (by decide +kernel))) (lb_cons (ls_if (lt_cmp (opr_eq hr.units) sim_eq (le_call C__law_take (hr.mono l__law_take) (la_cons (le_var 0) (la_cons (le_int) (la_nil)))) (le_int) (nomark _)) (lb_one (ls_setLc 3 [("_law_pick", 5), ("_law_most", 4)] rfl sc.nd (li_zip rfl b.zip (le_var 3) (le_var 2)) (blkOk_by (N := N__law_picks) (sc := d__law_picks.scope) (by decide +kernel)) (fun _ _ _ _ _ => lg_tup rfl (lgs_cons (lg_name (ms := [5, 4]) 5 sc.nd) (lgs_cons (lg_name (ms := [5, 4]) 4 sc.nd) (lgs_nil (ms := [5, 4]))))) (fun _ _ _ _ _ => lts_nil) (fun _ _ _ _ _ => le_ix (le_lst (la_cons (le_var 5) (la_cons (le_var 4) (la_cons (le_int) (la_nil))))) (le_call C__law_take (hr.mono l__law_take) (la_cons (le_var 0) (la_cons (le_int) (la_nil))))) (sw_true rfl rfl rfl (by decide +kernel)))) (lb_nil)) (lb_cons (ls_if (lt_cmp (opr_eq hr.units) sim_eq (le_call C__law_take (hr.mono l__law_take) (la_cons (le_var 0) (la_cons (le_int) (la_nil)))) (le_int) (nomark _)) (lb_cons (ls_set 6 sc.nd (le_call C__law_take (hr.mono l__law_take) (la_cons (le_var 0) (la_cons (le_op opr_add sim_add (le_callB callr_len sim_len rfl b.len boot_len (la_cons (le_var 3) (la_nil))) (le_int)) (la_nil))))) (lb_cons (ls_set 4 sc.nd (le_ix (le_op opr_add sim_add (le_var 2) (le_lst (la_cons (le_int) (la_nil)))) (le_var 6))) (lb_cons (ls_set 7 sc.nd (le_ix (le_lst (la_cons (le_op opr_add sim_add (le_var 4) (le_int)) (la_cons (le_neg (le_int)) (la_cons (le_bl) (la_cons (le_non) (la_cons (le_str) (la_cons (le_tup (la_cons (le_int) (la_nil))) (la_cons (le_op opr_add sim_add (le_var 4) (le_op op_pow sim_I (le_int) (le_int))) (la_cons (le_bl) (la_nil)))))))))) (le_call C__law_take (hr.mono l__law_take) (la_cons (le_var 0) (la_cons (le_int) (la_nil)))))) (lb_one (ls_set 3 sc.nd (le_op opr_add sim_add (le_op opr_add sim_add (le_slice (le_var 3) (lo_none) (lo_some (le_var 6))) (le_lst (la_cons (le_var 7) (la_nil)))) (le_slice (le_var 3) (lo_some (le_op opr_add sim_add (le_var 6) (le_int))) (lo_none)))))))) (lb_nil)) (lb_cons (ls_if (lt_cmp (opr_eq hr.units) sim_eq (le_call C__law_take (hr.mono l__law_take) (la_cons (le_var 0) (la_cons (le_int) (la_nil)))) (le_int) (nomark _)) (lb_one (ls_set 3 sc.nd (le_op opr_add sim_add (le_var 3) (le_op op_rep sim_mulL (le_lst (la_cons (le_int) (la_nil))) (le_op op_sub sim_I0 (le_op opr_add sim_add (le_int) (le_callB callr_len sim_len rfl b.len boot_len (la_cons (le_var 1) (la_nil)))) (le_callB callr_len sim_len rfl b.len boot_len (la_cons (le_var 3) (la_nil)))))))) (lb_nil)) (lb_one (ls_ret (le_var 3)))))))
abbrev N__law_wrong : List Str := ["_law_chosen", "_law_deeds", "_law_full_here", "_law_at"]
theorem sc__law_wrong : FnScope N__law_wrong ["_law_chosen", "_law_deeds"] d__law_wrong.scope := ⟨rfl, rfl, rfl, by decide +kernel, rfl, by decide +kernel, by decide +kernel⟩
def t__law_wrong (sp__law_full : Sp3) : TS3 := sSeq (sAsg (lCall sp__law_full [] (lCons (lVar 1) (lNil))) (gName3 2)) (sSeq (sFor (iRg1 (lCB rLen3 (lCons (lVar 0) (lNil)))) (gName3 3) (sSeq (sIf (lOr (lTest (lOp rGe3 (lVar 3) (lCB rLen3 (lCons (lVar 2) (lNil))))) (lOr (lNot (lTest (lIsi .int (lOp rIx3 (lVar 0) (lVar 3))))) (lTest (lIsi .bool (lOp rIx3 (lVar 0) (lVar 3)))))) (sRet (lVar 3)) (sNext)) (sIf (lNot (lTest (lChain rLe3 rLe3 (lC (.int 0)) (lOp rIx3 (lVar 0) (lVar 3)) (lOp rIx3 (lVar 2) (lVar 3))))) (sRet (lVar 3)) (sNext)))) (sRet (lC .non)))
theorem w__law_wrong {k : Nat} {sp__law_full : Sp3} {f0 : Addr} {cdv : Value} {A : Around} {outer : List Env} {s : Shared} {H : Hp} {E : XK} (hr : Room k (A.deeper (envOfC d__law_wrong.qual d__law_wrong.scope s.heap.objs.size f0 cdv))) (b : Bi mg) {k__law_full : Nat} (C__law_full : Cal P w K mg base "_law_full" k__law_full sp__law_full []) (l__law_full : k__law_full ≤ k) :
    LB (cxOf CX0 P w K mg base N__law_wrong d__law_wrong.qual d__law_wrong.scope f0 cdv A outer s H E).nox [] d__law_wrong.body (t__law_wrong sp__law_full) :=
  have sc := sc__law_wrong
  lb_cons (ls_set 2 sc.nd (le_call C__law_full (hr.mono l__law_full) (la_cons (le_var 1) (la_nil)))) (lb_cons (ls_for rfl (li_range1 rfl b.range (le_callB callr_len sim_len rfl b.len boot_len (la_cons (le_var 0) (la_nil)))) (lg_name (ms := [3]) 3 sc.nd) (lb_cons (ls_if (PW.pt (lw_or (lt_cmp op_ge sim_B0 (le_var 3) (le_callB callr_len sim_len rfl b.len boot_len (la_cons (le_var 2) (la_nil))) (nomark _)) (lw_or (lt_not (lt_val (le_isi .int rfl b.isinstance rfl b.int PyProof.Rows.boot_int (le_ix (le_var 0) (le_var 3))))) (lw_or1 (lt_val (le_isi .bool rfl b.isinstance rfl b.bool PyProof.Rows.boot_bool (le_ix (le_var 0) (le_var 3)))))))) (lb_one (ls_ret (le_var 3))) (lb_nil)) (lb_one (ls_if (lt_not (lt_chain op_le sim_B0 op_le sim_B0 (le_int) (le_ix (le_var 0) (le_var 3)) (le_ix (le_var 2) (le_var 3)))) (lb_one (ls_ret (le_var 3))) (lb_nil))))) (lb_one (ls_ret (le_non))))
abbrev N__law_is_so : List Str := ["_law_disk", "_law_files", "_law_waiting_here", "_law_name"]
theorem sc__law_is_so : FnScope N__law_is_so ["_law_disk", "_law_files", "_law_waiting_here"] d__law_is_so.scope := ⟨rfl, rfl, rfl, by decide +kernel, rfl, by decide +kernel, by decide +kernel⟩
def t__law_is_so (c_Disk : Addr) (sp_Disk_waiting : Sp3) (sp_Disk_names : Sp3) (sp_Disk_read : Sp3) : TS3 := sSeq (sIf (lOr (lTest (lOp rNe3 (lMeth c_Disk "waiting" sp_Disk_waiting [] (lVar 0) lNil) (lVar 2))) (lTest (lOp rNe3 (lMeth c_Disk "names" sp_Disk_names [] (lVar 0) lNil) (lCB rSortD3 (lCons (lVar 1) (lNil)))))) (sRet (lC (.bl false))) (sNext)) (sRet (lOp rEq3 (lLc (iLst3 (lCB rSortD3 (lCons (lVar 1) (lNil)))) (gName3 3) (tYes3) (lMeth c_Disk "read" sp_Disk_read [] (lVar 0) (lCons (lVar 3) (lNil))) [3]) (lLc (iLst3 (lCB rSortD3 (lCons (lVar 1) (lNil)))) (gName3 3) (tYes3) (lDIx (lVar 1) (lVar 3)) [3])))
theorem w__law_is_so {k : Nat} {c_Disk : Addr} {sp_Disk_waiting : Sp3} {sp_Disk_names : Sp3} {sp_Disk_read : Sp3} {f0 : Addr} {cdv : Value} {A : Around} {outer : List Env} {s : Shared} {H : Hp} {E : XK} (hr : Room k (A.deeper (envOfC d__law_is_so.qual d__law_is_so.scope s.heap.objs.size f0 cdv))) (b : Bi mg) {k_Disk_waiting : Nat} (M_Disk_waiting : CalM P w K mg base c_Disk "waiting" k_Disk_waiting sp_Disk_waiting []) (l_Disk_waiting : k_Disk_waiting ≤ k) {k_Disk_names : Nat} (M_Disk_names : CalM P w K mg base c_Disk "names" k_Disk_names sp_Disk_names []) (l_Disk_names : k_Disk_names ≤ k) {k_Disk_read : Nat} (M_Disk_read : CalM P w K mg base c_Disk "read" k_Disk_read sp_Disk_read []) (l_Disk_read : k_Disk_read ≤ k) :
    LB (cxOf CX0 P w K mg base N__law_is_so d__law_is_so.qual d__law_is_so.scope f0 cdv A outer s H E).nox [] d__law_is_so.body (t__law_is_so c_Disk sp_Disk_waiting sp_Disk_names sp_Disk_read) :=
  have sc := sc__law_is_so
  lb_cons (ls_if (PW.pt (lw_or (lt_cmp (opr_ne hr.units) sim_ne (le_meth0 (pl := _) M_Disk_waiting (hr.mono l_Disk_waiting) (le_var 0)) (le_var 2) (nomark _)) (lw_or1 (lt_cmp (opr_ne hr.units) sim_ne (le_meth0 (pl := _) M_Disk_names (hr.mono l_Disk_names) (le_var 0)) (le_callB (call_sortedD rfl) sim_sortD rfl b.sorted boot_sorted (la_cons (le_var 1) (la_nil))) (nomark _))))) (lb_one (ls_ret (le_bl))) (lb_nil)) (lb_one (ls_ret (le_cmp (opr_eq hr.units) sim_eq (le_lc [("_law_name", 3)] rfl sc.nd (li_lst (le_callB (call_sortedD rfl) sim_sortD rfl b.sorted boot_sorted (la_cons (le_var 1) (la_nil)))) (blkOk_by (N := N__law_is_so) (sc := d__law_is_so.scope) (by decide +kernel)) (fun _ _ _ _ _ => lg_name (ms := [3]) 3 sc.nd) (fun _ _ _ _ _ => lts_nil) (fun _ _ _ _ _ => le_meth (pl := _) M_Disk_read (hr.mono l_Disk_read) (le_var 0) (la_cons (le_var 3) (la_nil)))) (le_lc [("_law_name", 3)] rfl sc.nd (li_lst (le_callB (call_sortedD rfl) sim_sortD rfl b.sorted boot_sorted (la_cons (le_var 1) (la_nil)))) (blkOk_by (N := N__law_is_so) (sc := d__law_is_so.scope) (by decide +kernel)) (fun _ _ _ _ _ => lg_name (ms := [3]) 3 sc.nd) (fun _ _ _ _ _ => lts_nil) (fun _ _ _ _ _ => le_dix (hu_of hr) (le_var 1) (le_var 3))) (nomark _))))
abbrev N__law_kind : List Str := ["_law_e", "_law_names", "_law_some", "_law_name", "_law_bases", "_law_due", "_law_sign"]
theorem sc__law_kind : FnScope N__law_kind ["_law_e"] d__law_kind.scope := ⟨rfl, rfl, rfl, by decide +kernel, rfl, by decide +kernel, by decide +kernel⟩
def th__law_kind (a : Addr) (dx : Option Addr) (isa : Str → Bool) : TS3 := sSeq (sAsg (lLst (lCons (lC (.str "Broken")) (lCons (lC (.str "Full")) (lCons (lC (.str "Gone")) (lCons (lC (.str "NoDeed")) (lCons (lC (.str "NoFile")) (lCons (lC (.str "NoName")) (lCons (lC (.str "NoNumber")) (lCons (lC (.str "NoPages")) (lCons (lC (.str "NoQuery")) (lCons (lC (.str "NoShelf")) (lNil)))))))))))) (gName3 1)) (sSeq (sAsg (lOp rAdd3 (lVar 1) (lLst (lCons (lC (.str "NoSize")) (lCons (lC (.str "NoSlot")) (lCons (lC (.str "NoText")) (lCons (lC (.str "Taken")) (lCons (lC (.str "Torn")) (lNil)))))))) (gName3 1)) (sSeq (sAsg (lLst (lCons (lIsP a dx (isa "Broken") (lVar 0)) (lCons (lIsP a dx (isa "Full") (lVar 0)) (lCons (lIsP a dx (isa "Gone") (lVar 0)) (lCons (lIsP a dx (isa "NoDeed") (lVar 0)) (lNil)))))) (gName3 2)) (sSeq (sAsg (lOp rAdd3 (lVar 2) (lLst (lCons (lIsP a dx (isa "NoFile") (lVar 0)) (lCons (lIsP a dx (isa "NoName") (lVar 0)) (lCons (lIsP a dx (isa "NoNumber") (lVar 0)) (lCons (lIsP a dx (isa "NoPages") (lVar 0)) (lNil))))))) (gName3 2)) (sSeq (sAsg (lOp rAdd3 (lVar 2) (lLst (lCons (lIsP a dx (isa "NoQuery") (lVar 0)) (lCons (lIsP a dx (isa "NoShelf") (lVar 0)) (lCons (lIsP a dx (isa "NoSize") (lVar 0)) (lCons (lIsP a dx (isa "NoSlot") (lVar 0)) (lNil))))))) (gName3 2)) (sSeq (sAsg (lOp rAdd3 (lVar 2) (lLst (lCons (lIsP a dx (isa "NoText") (lVar 0)) (lCons (lIsP a dx (isa "Taken") (lVar 0)) (lCons (lIsP a dx (isa "Torn") (lVar 0)) (lNil)))))) (gName3 2)) (sSeq (sIf (lTest (lOp rNe3 (lCnt (lVar 2) (lC (.bl true))) (lC (.int 1)))) (sRet (lC (.str "!"))) (sNext)) (sSeq (sAsg (lOp rIx3 (lVar 1) (lIdx (lVar 2) (lC (.bl true)))) (gName3 3)) (sSeq (sAsg (lLst (lCons (lIsP a dx (isa "Wrong") (lVar 0)) (lCons (lIsP a dx (isa "RuntimeError") (lVar 0)) (lCons (lIsP a dx (isa "OverflowError") (lVar 0)) (lCons (lIsP a dx (isa "KeyError") (lVar 0)) (lNil)))))) (gName3 4)) (sSeq (sAsg (lOp rAdd3 (lVar 4) (lLst (lCons (lIsP a dx (isa "LookupError") (lVar 0)) (lCons (lIsP a dx (isa "ValueError") (lVar 0)) (lNil))))) (gName3 4)) (sSeq (sAsg (lDGet2 (lC (.dic (kdL [("Broken", "R"), ("Torn", "R"), ("Full", "O"), ("Gone", "KL"), ("NoFile", "L"), ("NoSlot", "L")]))) (lVar 3) (lC (.str "WV"))) (gName3 5)) (sSeq (sIf (lTest (lOp rNe3 (lVar 4) (lLc (iStr3 (lC (.str "WROKLV"))) (gName3 6) tYes3 (lOp (rIn3 false) (lVar 6) (lVar 5)) [6]))) (sRet (lC (.str "!"))) (sNext)) (sRet (lOp rAdd3 (lC (.str "!")) (lVar 3))))))))))))))
theorem wh__law_kind {k : Nat} {dx : Option Addr} {isa : Str → Bool} {f0 : Addr} {cdv : Value} {A : Around} {outer : List Env} {s : Shared} {H : Hp} {p : Addr × Obj} {C : Addr} (hr : L2H.RoomH k (A.deeper (envOfC d__law_kind.qual d__law_kind.scope s.heap.objs.size f0 cdv))) (b : Bi mg) (hot : IsHot (A.deeper (envOfC d__law_kind.qual d__law_kind.scope s.heap.objs.size f0 cdv)) p C dx) (T : ExK K mg C isa ["Broken", "Full", "Gone", "NoDeed", "NoFile", "NoName", "NoNumber", "NoPages", "NoQuery", "NoShelf", "NoSize", "NoSlot", "NoText", "Taken", "Torn", "Wrong"] ["RuntimeError", "OverflowError", "KeyError", "LookupError", "ValueError"])  :
    LB (L2H.cxH CX0 P w K mg base N__law_kind d__law_kind.qual d__law_kind.scope f0 cdv A outer s H E0 p) [] d__law_kind.body (th__law_kind p.1 dx isa) :=
  have sc := sc__law_kind
  have hpm : p ∈ (L2H.cxH CX0 P w K mg base N__law_kind d__law_kind.qual d__law_kind.scope f0 cdv A outer s H E0 p).pn := List.mem_cons_self
  lb_cons (ls_set 1 sc.nd (le_lst (la_cons (le_str) (la_cons (le_str) (la_cons (le_str) (la_cons (le_str) (la_cons (le_str) (la_cons (le_str) (la_cons (le_str) (la_cons (le_str) (la_cons (le_str) (la_cons (le_str) (la_nil))))))))))))) (lb_cons (ls_set 1 sc.nd (le_op opr_add sim_add (le_var 1) (le_lst (la_cons (le_str) (la_cons (le_str) (la_cons (le_str) (la_cons (le_str) (la_cons (le_str) (la_nil))))))))) (lb_cons (ls_set 2 sc.nd (le_lst (la_cons (le_isPo "Broken" T hpm hot b.isinstance (le_var 0)) (la_cons (le_isPo "Full" T hpm hot b.isinstance (le_var 0)) (la_cons (le_isPo "Gone" T hpm hot b.isinstance (le_var 0)) (la_cons (le_isPo "NoDeed" T hpm hot b.isinstance (le_var 0)) (la_nil))))))) (lb_cons (ls_set 2 sc.nd (le_op opr_add sim_add (le_var 2) (le_lst (la_cons (le_isPo "NoFile" T hpm hot b.isinstance (le_var 0)) (la_cons (le_isPo "NoName" T hpm hot b.isinstance (le_var 0)) (la_cons (le_isPo "NoNumber" T hpm hot b.isinstance (le_var 0)) (la_cons (le_isPo "NoPages" T hpm hot b.isinstance (le_var 0)) (la_nil)))))))) (lb_cons (ls_set 2 sc.nd (le_op opr_add sim_add (le_var 2) (le_lst (la_cons (le_isPo "NoQuery" T hpm hot b.isinstance (le_var 0)) (la_cons (le_isPo "NoShelf" T hpm hot b.isinstance (le_var 0)) (la_cons (le_isPo "NoSize" T hpm hot b.isinstance (le_var 0)) (la_cons (le_isPo "NoSlot" T hpm hot b.isinstance (le_var 0)) (la_nil)))))))) (lb_cons (ls_set 2 sc.nd (le_op opr_add sim_add (le_var 2) (le_lst (la_cons (le_isPo "NoText" T hpm hot b.isinstance (le_var 0)) (la_cons (le_isPo "Taken" T hpm hot b.isinstance (le_var 0)) (la_cons (le_isPo "Torn" T hpm hot b.isinstance (le_var 0)) (la_nil))))))) (lb_cons (ls_if (lt_cmp (opr_ne (rhU hr)) sim_ne (le_cnt (le_var 2) (le_bl)) (le_int) (nomark _)) (lb_one (ls_ret (le_str))) (lb_nil)) (lb_cons (ls_set 3 sc.nd (le_ix (le_var 1) (le_idx (le_var 2) (le_bl)))) (lb_cons (ls_set 4 sc.nd (le_lst (la_cons (le_isPo "Wrong" T hpm hot b.isinstance (le_var 0)) (la_cons (le_isPt "RuntimeError" T hpm hot b.isinstance (le_var 0)) (la_cons (le_isPt "OverflowError" T hpm hot b.isinstance (le_var 0)) (la_cons (le_isPt "KeyError" T hpm hot b.isinstance (le_var 0)) (la_nil))))))) (lb_cons (ls_set 4 sc.nd (le_op opr_add sim_add (le_var 4) (le_lst (la_cons (le_isPt "LookupError" T hpm hot b.isinstance (le_var 0)) (la_cons (le_isPt "ValueError" T hpm hot b.isinstance (le_var 0)) (la_nil)))))) (lb_cons (ls_set 5 sc.nd (le_dget2 (rh1 hr) (le_dlit [("Broken", "R"), ("Torn", "R"), ("Full", "O"), ("Gone", "KL"), ("NoFile", "L"), ("NoSlot", "L")] (pps_cons pe_str pe_str (pps_cons pe_str pe_str (pps_cons pe_str pe_str (pps_cons pe_str pe_str (pps_cons pe_str pe_str (pps_cons pe_str pe_str (pps_nil))))))) rfl (by decide)) (le_var 3) (le_str))) (lb_cons (ls_if (lt_cmp (opr_ne (rhU hr)) sim_ne (le_var 4) (le_lcH [("_law_sign", 6)] ⟨p, hot.hot, hpm⟩ sc.nd (blkOk_by (N := N__law_kind) (sc := d__law_kind.scope) (by decide +kernel)) (fun _ _ _ _ _ => lg_name (ms := [6]) 6 sc.nd) (fun _ _ _ _ _ => le_cmp (opr_in (rh65 hr)) sim_in (le_var 6) (le_var 5) (by rfl))) (nomark _)) (lb_one (ls_ret (le_str))) (lb_nil)) (lb_one (ls_ret (le_op opr_add sim_add (le_str) (le_var 3)))))))))))))))
def te_Disk_look_picks (K : PySem.W.Frag) (sp_most_pick : Sp3) (c_NoDeed : Addr) (w3 : WE3) : TS3 := sSeq (sIf (lNot (lTest (lIsi2 .list .tuple (lVar 1)))) (sRaise1 c_NoDeed "at" (lC .non) w3) (sNext)) (sFor (iEnumQ3 (lVar 1)) (gTup3 2 (gCons3 (gName3 2) (gCons3 (gName3 3) (gNil3)))) (sSeq (sIf (lOr (lTest (lOp rGe3 (lVar 2) (lCB rLen3 (lCons (lFld K "queue" (lVar 0)) (lNil))))) (lOr (lNot (lTest (lIsi .int (lVar 3)))) (lTest (lIsi .bool (lVar 3))))) (sRaise1 c_NoDeed "at" (lVar 2) w3) (sNext)) (sIf (lNot (lTest (lChain rLe3 rLe3 (lC (.int 0)) (lVar 3) (lCall sp_most_pick [] (lCons (lOp rIx3 (lFld K "queue" (lVar 0)) (lVar 2)) (lNil)))))) (sRaise1 c_NoDeed "at" (lVar 2) w3) (sNext))))
theorem we_Disk_look_picks {k : Nat} {sp_most_pick : Sp3} {c_NoDeed : Addr} {w3 : WE3} {f0 : Addr} {cdv : Value} {A : Around} {outer : List Env} {s : Shared} {H : Hp} {E : XK} {B : BT} (hr : Room k (A.deeper (envOfC d_Disk_look_picks.qual d_Disk_look_picks.scope s.heap.objs.size f0 cdv))) (b : Bi mg) (tk : L2N.Takes (cxOf (L2N.CX P w) P w K mg base N_Disk_look_picks d_Disk_look_picks.qual d_Disk_look_picks.scope f0 cdv A outer s H E) (wE K B w3)) {k_NoDeed : Nat} (R_NoDeed : CalR P w K mg base "NoDeed" "at" c_NoDeed k_NoDeed) (l_NoDeed : k_NoDeed + 1 ≤ k) {k_most_pick : Nat} (C_most_pick : Cal P w K mg base "most_pick" k_most_pick sp_most_pick []) (l_most_pick : k_most_pick ≤ k) :
    LB (cxOf (L2N.CX P w) P w K mg base N_Disk_look_picks d_Disk_look_picks.qual d_Disk_look_picks.scope f0 cdv A outer s H E) B d_Disk_look_picks.body (te_Disk_look_picks K sp_most_pick c_NoDeed w3) :=
  have sc := sc_Disk_look_picks
  lb_cons (ls_if (lt_not (lt_val (le_isi2 .list .tuple rfl b.isinstance rfl b.list PyProof.Rows.boot_list rfl b.tuple PyProof.Rows.boot_tuple (le_var 1)))) (lb_one (ls_raiseE R_NoDeed rfl tk (hr.mono l_NoDeed) (le_non))) (lb_nil)) (lb_one (ls_for rfl (li_enumQ rfl b.enumerate (le_var 1)) (lg_tup rfl (lgs_cons (lg_name (ms := [2, 3]) 2 sc.nd) (lgs_cons (lg_name (ms := [2, 3]) 3 sc.nd) (lgs_nil (ms := [2, 3]))))) (lb_cons (ls_if (PW.pt (lw_or (lt_cmp op_ge sim_B0 (le_var 2) (le_callB callr_len sim_len rfl b.len boot_len (la_cons (le_fld (le_var 0)) (la_nil))) (nomark _)) (lw_or (lt_not (lt_val (le_isi .int rfl b.isinstance rfl b.int PyProof.Rows.boot_int (le_var 3)))) (lw_or1 (lt_val (le_isi .bool rfl b.isinstance rfl b.bool PyProof.Rows.boot_bool (le_var 3))))))) (lb_one (ls_raiseE R_NoDeed rfl tk (hr.mono l_NoDeed) (le_var 2))) (lb_nil)) (lb_one (ls_if (lt_not (lt_chain op_le sim_B0 op_le sim_B0 (le_int) (le_var 3) (le_call C_most_pick (hr.mono l_most_pick) (la_cons (le_ix (le_fld (le_var 0)) (le_var 2)) (la_nil))))) (lb_one (ls_raiseE R_NoDeed rfl tk (hr.mono l_NoDeed) (le_var 2))) (lb_nil)))) (hp := passes_of rfl)))
def te_Disk_crash (K : PySem.W.Frag) (sp_changed : Sp3) (c_Disk : Addr) (spe_Disk_look_picks : SpE) (dde_Disk_look_picks : List D) (w3 : WE3) : TS3 := sSeq (sDrop (lMethE c_Disk "look_picks" spe_Disk_look_picks dde_Disk_look_picks w3 (lVar 0) (lCons (lVar 1) (lNil)))) (sSeq (sFor (iEnumQ3 (lVar 1)) (gTup3 2 (gCons3 (gName3 2) (gCons3 (gName3 3) (gNil3)))) (sIf (lTest (lOp rGt3 (lVar 3) (lC (.int 0)))) (sDrop (lCall sp_changed [] (lCons (lFld K "files" (lVar 0)) (lCons (lOp rIx3 (lFld K "queue" (lVar 0)) (lVar 2)) (lCons (lVar 3) (lNil)))))) (sNext))) (sFld3 K (lVar 0) (lLstG (lNil)) "queue"))
theorem we_Disk_crash {k : Nat} {sp_changed : Sp3} {c_Disk : Addr} {spe_Disk_look_picks : SpE} {dde_Disk_look_picks : List D} {w3 : WE3} {f0 : Addr} {cdv : Value} {A : Around} {outer : List Env} {s : Shared} {H : Hp} {E : XK} {B : BT} (hr : Room k (A.deeper (envOfC d_Disk_crash.qual d_Disk_crash.scope s.heap.objs.size f0 cdv))) (b : Bi mg) (tk : L2N.Takes (cxOf (L2N.CX P w) P w K mg base N_Disk_crash d_Disk_crash.qual d_Disk_crash.scope f0 cdv A outer s H E) (wE K B w3)) {ke_Disk_look_picks : Nat} (ME_Disk_look_picks : CalME P w K mg base c_Disk "look_picks" ke_Disk_look_picks spe_Disk_look_picks dde_Disk_look_picks) (le_Disk_look_picks : ke_Disk_look_picks ≤ k) {k_changed : Nat} (C_changed : Cal P w K mg base "changed" k_changed sp_changed []) (l_changed : k_changed ≤ k) :
    LB (cxOf (L2N.CX P w) P w K mg base N_Disk_crash d_Disk_crash.qual d_Disk_crash.scope f0 cdv A outer s H E) B d_Disk_crash.body (te_Disk_crash K sp_changed c_Disk spe_Disk_look_picks dde_Disk_look_picks w3) :=
  have sc := sc_Disk_crash
  lb_cons (ls_expr (le_methE (pl := _) ME_Disk_look_picks (hr.mono le_Disk_look_picks) tk (le_var 0) (la_cons (le_var 1) (la_nil)))) (lb_cons (ls_for rfl (li_enumQ rfl b.enumerate (le_var 1)) (lg_tup rfl (lgs_cons (lg_name (ms := [2, 3]) 2 sc.nd) (lgs_cons (lg_name (ms := [2, 3]) 3 sc.nd) (lgs_nil (ms := [2, 3]))))) (lb_one (ls_if (lt_cmp op_gt sim_B0 (le_var 3) (le_int) (nomark _)) (lb_one (ls_expr (le_call C_changed (hr.mono l_changed) (la_cons (le_fld (le_var 0)) (la_cons (le_ix (le_fld (le_var 0)) (le_var 2)) (la_cons (le_var 3) (la_nil))))))) (lb_nil))) (hp := passes_of rfl)) (lb_one (ls_fld (le_var 0) (le_lstG (la_nil)))))
abbrev N__law_how : List Str := ["_law_deed", "_law_told", "_law_e"]
theorem sc__law_how : FnScope N__law_how ["_law_deed"] d__law_how.scope := ⟨rfl, rfl, rfl, by decide +kernel, rfl, by decide +kernel, by decide +kernel⟩
def tL__law_how (K : PySem.W.Frag) (c_NoName : Addr) (c_NoDeed : Addr) (c_NoFile : Addr) (c_Torn : Addr) (spp__law_kind : SpP) (q : Str) (f c' : Addr) (deed : Deed) : TS3 := sSeq (sTryC K [([c_NoFile, c_Torn], 2, fun a C dx => sNever), ([c_NoDeed], 2, fun a C dx => sRet (lLst (lCons (lCall (spp__law_kind a C dx) [] (lCons (lVar 2) (lNil))) (lCons (lXf a C dx c_NoDeed "at" (lVar 2)) (lNil))))), ([c_NoName], 2, fun a C dx => sNever)] (fun w3 => sAsg (lDeed f c' q deed w3) (gName3 1))) (sRet (lLst (lCons (lC (.str "told")) (lCons (lVar 1) (lNil)))))
theorem wL__law_how {k : Nat} {c_NoName : Addr} {c_NoDeed : Addr} {c_NoFile : Addr} {c_Torn : Addr} {spp__law_kind : SpP} {q : Str} {f c' : Addr} {deed : Deed} {f0 : Addr} {cdv : Value} {A : Around} {outer : List Env} {s : Shared} {H : Hp} {B : BT} (hr : Room k (A.deeper (envOfC d__law_how.qual d__law_how.scope s.heap.objs.size f0 cdv))) (b : Bi mg) (XF_NoDeed : XfC K c_NoDeed) (NO_NoDeed : PySem.W.findIn K (.ref c_NoDeed) "at" = some none) (act : ∀ (w3 : WE3) (B' : BT) (pn : List (Addr × Obj)) (xe : Value → Shared → Prop) (p1 p2 : Pos), (∀ p ∈ B, p ∈ B') → L2N.Takes ((cxOf CX0 P w K mg base N__law_how d__law_how.qual d__law_how.scope f0 cdv A outer s H E0).tr pn xe) (wE K B' w3) → LE ((cxOf CX0 P w K mg base N__law_how d__law_how.qual d__law_how.scope f0 cdv A outer s H E0).tr pn xe) B' (.Call (.Name "_law_deed" p1) [] [] p2) (lDeed f c' q deed w3)) (n_NoName : ∀ X : Cx, X.mg = mg → X.K = K → Gl X "NoName" → Names X "NoName" (.ref c_NoName)) (n_NoDeed : ∀ X : Cx, X.mg = mg → X.K = K → Gl X "NoDeed" → Names X "NoDeed" (.ref c_NoDeed)) (n_NoFile : ∀ X : Cx, X.mg = mg → X.K = K → Gl X "NoFile" → Names X "NoFile" (.ref c_NoFile)) (n_Torn : ∀ X : Cx, X.mg = mg → X.K = K → Gl X "Torn" → Names X "Torn" (.ref c_Torn)) {k__law_kind : Nat} (CP__law_kind : CalP P w K mg base "_law_kind" k__law_kind spp__law_kind) (l__law_kind : k__law_kind ≤ k) :
    LB (cxOf CX0 P w K mg base N__law_how d__law_how.qual d__law_how.scope f0 cdv A outer s H E0).nox B d__law_how.body (tL__law_how K c_NoName c_NoDeed c_NoFile c_Torn spp__law_kind q f c' deed) :=
  have sc := sc__law_how
  lb_cons (ls_tryC rfl rfl sc.nd (fun w3 B' pn xe hB tk => lb_one (ls_set 1 sc.nd (act _ _ _ _ _ _ hB tk))) (.two (n_NoFile _ rfl rfl rfl) (n_Torn _ rfl rfl rfl) rfl rfl rfl (fun a oe C dx pn hz hfl => lb_never) (.one (n_NoDeed _ rfl rfl rfl) rfl rfl (fun a oe C dx pn hz hfl => lb_one (ls_ret (le_lst (la_cons (le_callP (p := (a, oe)) CP__law_kind (rh_mark (hr.mono l__law_kind)) List.mem_cons_self (hot_suite hz hfl) (la_cons (le_var 2) (la_nil))) (la_cons (le_xf XF_NoDeed NO_NoDeed hz hfl (le_var 2)) (la_nil)))))) (.one (n_NoName _ rfl rfl rfl) rfl rfl (fun a oe C dx pn hz hfl => lb_never) .nil)))) (lb_one (ls_ret (le_lst (la_cons (le_str) (la_cons (le_var 1) (la_nil))))))
abbrev N_law : List Str := ["_law_script", "_law_k", "_law_purse_here", "_law_disk", "_law_first", "_law_files", "_law_turn", "_law_deeds", "_law_twin", "_law_before", "_law_chosen", "_law_handed", "_law_kept", "_law_wrong_here", "_law_told", "_law_odd"]
theorem sc_law : FnScope N_law ["_law_script"] d_law.scope := ⟨rfl, rfl, rfl, by decide +kernel, rfl, by decide +kernel, by decide +kernel⟩
def t_law (sp__law_purse : Sp3) (sp__law_waiting : Sp3) (sp__law_take : Sp3) (sp__law_seen : Sp3) (sp__law_picks : Sp3) (sp__law_wrong : Sp3) (sp__law_is_so : Sp3) (sp__law_done : Sp3) (c_Disk : Addr) (sp_Disk_flush : Sp3) (sp_Disk_twin : Sp3) (sp_Disk_crash : Sp3) (sp_Disk : Sp3) (dd_Disk : List D) (spe_Disk_crash : SpE) (gD_Disk_crash : List D → List D → List D) (pT : Addr) (qL : Str) (tt__law_how : Str → Addr → Addr → Deed → TS3) : TS3 := sSeq (sFor (iRg1 (lCB rMax3 (lCons (lC (.int 3)) (lCons (lCB rMin3 (lCons (lCB rLen3 (lCons (lVar 0) (lNil))) (lCons (lC (.int 16)) (lNil)))) (lNil))))) (gName3 1) (sSeq (sAsg (lCall sp__law_purse [] (lCons (lVar 0) (lCons (lVar 1) (lNil)))) (gName3 2)) (sSeq (sAsg (lMake c_Disk sp_Disk dd_Disk lNil) (gName3 3)) (sSeq (sAsg (lCall sp__law_waiting [] (lCons (lVar 2) (lCons (lVar 3) (lCons (lFrz (lDNew)) (lCons (lCall sp__law_take [] (lCons (lVar 2) (lCons (lC (.int 5)) (lNil)))) (lNil)))))) (gName3 4)) (sSeq (sDrop (lMeth c_Disk "flush" sp_Disk_flush [] (lVar 3) lNil)) (sSeq (sAsg (lCall sp__law_seen [] (lCons (lFrz (lDNew)) (lCons (lVar 4) (lNil)))) (gName3 5)) (sFor (iRg1 (lC (.int 2))) (gName3 6) (sSeq (sAsg (lCall sp__law_waiting [] (lCons (lVar 2) (lCons (lVar 3) (lCons (lVar 5) (lCons (lCall sp__law_take [] (lCons (lVar 2) (lCons (lC (.int 8)) (lNil)))) (lNil)))))) (gName3 7)) (sSeq (sAsg (lMeth c_Disk "twin" sp_Disk_twin [] (lVar 3) lNil) (gName3 8)) (sSeq (sAsg (lCall sp__law_seen [] (lCons (lVar 5) (lCons (lVar 7) (lNil)))) (gName3 9)) (sSeq (sAsg (lCall sp__law_picks [] (lCons (lVar 2) (lCons (lVar 7) (lNil)))) (gName3 10)) (sSeq (sAsg (lOp rIx3 (lLst (lCons (lCB rList3 (lCons (lVar 10) (lNil))) (lCons (lCB rTuple3 (lCons (lVar 10) (lNil))) (lNil)))) (lCB rInt3' (lCons (lOp rEq3 (lCall sp__law_take [] (lCons (lVar 2) (lCons (lC (.int 3)) (lNil)))) (lC (.int 2))) (lNil)))) (gName3 11)) (sSeq (sAsg (lRepr (lVar 11)) (gName3 12)) (sSeq (sAsg (lCall sp__law_wrong [] (lCons (lVar 10) (lCons (lVar 7) (lNil)))) (gName3 13)) (sSeq (sAsg (lLam [(pT, qL)] qL N__law_how (tt__law_how qL) (fun w => lMethN c_Disk "crash" 1 1 spe_Disk_crash gD_Disk_crash (fun C d _ G => w C d G) (lVar 3) (lNil) (lCons (lVar 11) (lNil)))) (gName3 14)) (sSeq (sIf (lOr (lTest (lOp rNe3 (lVar 14) (lOp rIx3 (lLst (lCons (lLst (lCons (lC (.str "!NoDeed")) (lCons (lVar 13) (lNil)))) (lCons (lLst (lCons (lC (.str "told")) (lCons (lC .non) (lNil)))) (lNil)))) (lCB rInt3' (lCons (lOp rIsN3 (lVar 13) (lC .non)) (lNil)))))) (lTest (lOp rNe3 (lRepr (lVar 11)) (lVar 12)))) (sRet (lC (.bl false))) (sNext)) (sSeq (sAsg (lOp rIx3 (lLst (lCons (lC .non) (lCons (lC (.int 1)) (lCons (lC (.str "1")) (lCons (lC (.bl true)) (lCons (lNeg (lC (.int 1))) (lNil))))))) (lCall sp__law_take [] (lCons (lVar 2) (lCons (lC (.int 5)) (lNil))))) (gName3 15)) (sSeq (sIf (lTest (lOp rNe3 (lLam [(pT, qL)] qL N__law_how (tt__law_how qL) (fun w => lMethN c_Disk "crash" 1 1 spe_Disk_crash gD_Disk_crash (fun C d _ G => w C d G) (lVar 8) (lNil) (lCons (lVar 15) (lNil)))) (lLst (lCons (lC (.str "!NoDeed")) (lCons (lC .non) (lNil)))))) (sRet (lC (.bl false))) (sNext)) (sSeq (sIf (lNot (lTest (lCall sp__law_is_so [] (lCons (lVar 8) (lCons (lVar 9) (lCons (lCB rLen3 (lCons (lVar 7) (lNil))) (lNil))))))) (sRet (lC (.bl false))) (sNext)) (sSeq (sIf (lTest (lOp rNotN3 (lVar 13) (lC .non))) (sSeq (sIf (lNot (lTest (lCall sp__law_is_so [] (lCons (lVar 3) (lCons (lVar 9) (lCons (lCB rLen3 (lCons (lVar 7) (lNil))) (lNil))))))) (sRet (lC (.bl false))) (sNext)) (sSeq (sDrop (lMeth c_Disk "crash" sp_Disk_crash [.tup []] (lVar 3) lNil)) (sAsg (lLst (lNil)) (gName3 10)))) (sNext)) (sSeq (sAsg (lCall sp__law_done [] (lCons (lVar 5) (lCons (lVar 7) (lCons (lVar 10) (lNil))))) (gName3 5)) (sSeq (sIf (lNot (lTest (lCall sp__law_is_so [] (lCons (lVar 3) (lCons (lVar 5) (lCons (lC (.int 0)) (lNil))))))) (sRet (lC (.bl false))) (sNext)) (sSeq (sDrop (lMeth c_Disk "flush" sp_Disk_flush [] (lVar 3) lNil)) (sIf (lOr (lNot (lTest (lCall sp__law_is_so [] (lCons (lVar 3) (lCons (lVar 5) (lCons (lC (.int 0)) (lNil))))))) (lNot (lTest (lCall sp__law_is_so [] (lCons (lVar 8) (lCons (lVar 9) (lCons (lCB rLen3 (lCons (lVar 7) (lNil))) (lNil)))))))) (sRet (lC (.bl false))) (sNext))))))))))))))))))))))))) (sRet (lC (.bl true)))
theorem w_law {k : Nat} {sp__law_purse : Sp3} {sp__law_waiting : Sp3} {sp__law_take : Sp3} {sp__law_seen : Sp3} {sp__law_picks : Sp3} {sp__law_wrong : Sp3} {sp__law_is_so : Sp3} {sp__law_done : Sp3} {c_Disk : Addr} {sp_Disk_flush : Sp3} {sp_Disk_twin : Sp3} {sp_Disk_crash : Sp3} {sp_Disk : Sp3} {dd_Disk : List D} {spe_Disk_crash : SpE} {gD_Disk_crash : List D → List D → List D} {pT : Addr} {qL : Str} {tt__law_how : Str → Addr → Addr → Deed → TS3} {f0 : Addr} {cdv : Value} {A : Around} {outer : List Env} {s : Shared} {H : Hp} {E : XK} (hr : Room k (A.deeper (envOfC d_law.qual d_law.scope s.heap.objs.size f0 cdv))) (b : Bi mg) {kb : Nat} (hk4 : kb + 4 ≤ k) {cT : Addr} (TB : LamX.TabB base mg cT pT) (hcd : cdv = .ref cT) (hqL : qL = d_law.qual ++ ".<locals>." ++ "<lambda>") (L__law_how : CalL P w K mg base "_law_how" "_law_deed" N__law_how tt__law_how) {kn_Disk_crash : Nat} (MN_Disk_crash : CalMN P w K mg base c_Disk "crash" kn_Disk_crash 1 ["picks"] spe_Disk_crash gD_Disk_crash) (ln_Disk_crash : kn_Disk_crash ≤ kb) {k__law_purse : Nat} (C__law_purse : Cal P w K mg base "_law_purse" k__law_purse sp__law_purse []) (l__law_purse : k__law_purse ≤ k) {k__law_waiting : Nat} (C__law_waiting : Cal P w K mg base "_law_waiting" k__law_waiting sp__law_waiting []) (l__law_waiting : k__law_waiting ≤ k) {k__law_take : Nat} (C__law_take : Cal P w K mg base "_law_take" k__law_take sp__law_take []) (l__law_take : k__law_take ≤ k) {k__law_seen : Nat} (C__law_seen : Cal P w K mg base "_law_seen" k__law_seen sp__law_seen []) (l__law_seen : k__law_seen ≤ k) {k__law_picks : Nat} (C__law_picks : Cal P w K mg base "_law_picks" k__law_picks sp__law_picks []) (l__law_picks : k__law_picks ≤ k) {k__law_wrong : Nat} (C__law_wrong : Cal P w K mg base "_law_wrong" k__law_wrong sp__law_wrong []) (l__law_wrong : k__law_wrong ≤ k) {k__law_is_so : Nat} (C__law_is_so : Cal P w K mg base "_law_is_so" k__law_is_so sp__law_is_so []) (l__law_is_so : k__law_is_so ≤ k) {k__law_done : Nat} (C__law_done : Cal P w K mg base "_law_done" k__law_done sp__law_done []) (l__law_done : k__law_done ≤ k) {k_Disk_flush : Nat} (M_Disk_flush : CalM P w K mg base c_Disk "flush" k_Disk_flush sp_Disk_flush []) (l_Disk_flush : k_Disk_flush ≤ k) {k_Disk_twin : Nat} (M_Disk_twin : CalM P w K mg base c_Disk "twin" k_Disk_twin sp_Disk_twin []) (l_Disk_twin : k_Disk_twin ≤ k) {k_Disk_crash : Nat} (M_Disk_crash : CalM P w K mg base c_Disk "crash" k_Disk_crash sp_Disk_crash [.tup []]) (l_Disk_crash : k_Disk_crash ≤ k) {k_Disk : Nat} (N_Disk : CalN P w K mg base "Disk" c_Disk k_Disk sp_Disk dd_Disk) (l_Disk : k_Disk + 1 ≤ k) (hgd : (A.deeper (envOfC d_law.qual d_law.scope s.heap.objs.size f0 cdv)).guards = some []) :
    LB (cxOf CX0 P w K mg base N_law d_law.qual d_law.scope f0 cdv A outer s H E).nox [] d_law.body (t_law sp__law_purse sp__law_waiting sp__law_take sp__law_seen sp__law_picks sp__law_wrong sp__law_is_so sp__law_done c_Disk sp_Disk_flush sp_Disk_twin sp_Disk_crash sp_Disk dd_Disk spe_Disk_crash gD_Disk_crash pT qL tt__law_how) :=
  have sc := sc_law
  by
    subst hcd hqL
    exact lb_cons (ls_for rfl (li_range1 rfl b.range (le_callB (call_max2 rfl) sim_max rfl b.max boot_max (la_cons (le_int) (la_cons (le_callB (call_min2 rfl) sim_min rfl b.min boot_min (la_cons (le_callB callr_len sim_len rfl b.len boot_len (la_cons (le_var 0) (la_nil))) (la_cons (le_int) (la_nil)))) (la_nil))))) (lg_name (ms := [1]) 1 sc.nd) (lb_cons (ls_set 2 sc.nd (le_call C__law_purse (hr.mono l__law_purse) (la_cons (le_var 0) (la_cons (le_var 1) (la_nil))))) (lb_cons (ls_set 3 sc.nd (le_make0 N_Disk (hr.mono l_Disk))) (lb_cons (ls_set 4 sc.nd (le_call C__law_waiting (hr.mono l__law_waiting) (la_cons (le_var 2) (la_cons (le_var 3) (la_cons (le_frz (le_dnew)) (la_cons (le_call C__law_take (hr.mono l__law_take) (la_cons (le_var 2) (la_cons (le_int) (la_nil)))) (la_nil))))))) (lb_cons (ls_expr (le_meth0 (pl := _) M_Disk_flush (hr.mono l_Disk_flush) (le_var 3))) (lb_cons (ls_set 5 sc.nd (le_call C__law_seen (hr.mono l__law_seen) (la_cons (le_frz (le_dnew)) (la_cons (le_var 4) (la_nil))))) (lb_one (ls_for rfl (li_range1 rfl b.range (le_int)) (lg_name (ms := [6]) 6 sc.nd) (lb_cons (ls_set 7 sc.nd (le_call C__law_waiting (hr.mono l__law_waiting) (la_cons (le_var 2) (la_cons (le_var 3) (la_cons (le_var 5) (la_cons (le_call C__law_take (hr.mono l__law_take) (la_cons (le_var 2) (la_cons (le_int) (la_nil)))) (la_nil))))))) (lb_cons (ls_set 8 sc.nd (le_meth0 (pl := _) M_Disk_twin (hr.mono l_Disk_twin) (le_var 3))) (lb_cons (ls_set 9 sc.nd (le_call C__law_seen (hr.mono l__law_seen) (la_cons (le_var 5) (la_cons (le_var 7) (la_nil))))) (lb_cons (ls_set 10 sc.nd (le_call C__law_picks (hr.mono l__law_picks) (la_cons (le_var 2) (la_cons (le_var 7) (la_nil))))) (lb_cons (ls_set 11 sc.nd (le_ix (le_lst (la_cons (le_callTy call_list_of sim_list rfl b.list boot_list (la_cons (le_var 10) (la_nil))) (la_cons (le_callTy call_tuple_of sim_tuple rfl b.tuple boot_tuple (la_cons (le_var 10) (la_nil))) (la_nil)))) (le_callTy call_int1 sim_int rfl b.int boot_int (la_cons (le_cmp (opr_eq hr.units) sim_eq (le_call C__law_take (hr.mono l__law_take) (la_cons (le_var 2) (la_cons (le_int) (la_nil)))) (le_int) (nomark _)) (la_nil))))) (lb_cons (ls_set 12 sc.nd (le_repr hr hgd rfl b.repr boot_repr (le_var 11))) (lb_cons (ls_set 13 sc.nd (le_call C__law_wrong (hr.mono l__law_wrong) (la_cons (le_var 10) (la_cons (le_var 7) (la_nil))))) (lb_cons (ls_set 14 sc.nd (le_lamC L__law_how TB rfl (hr.mono hk4) (by show LamX.lamSB d_law.scope _ = true; decide +kernel) (fun A outer s H E f c' hrB => pe_lam_of fun B w tk => le_methN0 (pl := _) (ks := ["picks"]) MN_Disk_crash (hrB.mono ln_Disk_crash) tk (le_var 3) (lk_cons (le_var 11) (lk_nil))))) (lb_cons (ls_if (PW.pt (lw_or (lt_cmp (opr_ne hr.units) sim_ne (le_var 14) (le_ix (le_lst (la_cons (le_lst (la_cons (le_str) (la_cons (le_var 13) (la_nil)))) (la_cons (le_lst (la_cons (le_str) (la_cons (le_non) (la_nil)))) (la_nil)))) (le_callTy call_int1 sim_int rfl b.int boot_int (la_cons (le_cmp op_isN sim_isN (le_var 13) (le_non) (nomark _)) (la_nil)))) (nomark _)) (lw_or1 (lt_cmp (opr_ne hr.units) sim_ne (le_repr hr hgd rfl b.repr boot_repr (le_var 11)) (le_var 12) (nomark _))))) (lb_one (ls_ret (le_bl))) (lb_nil)) (lb_cons (ls_set 15 sc.nd (le_ix (le_lst (la_cons (le_non) (la_cons (le_int) (la_cons (le_str) (la_cons (le_bl) (la_cons (le_neg (le_int)) (la_nil))))))) (le_call C__law_take (hr.mono l__law_take) (la_cons (le_var 2) (la_cons (le_int) (la_nil)))))) (lb_cons (ls_if (lt_cmp (opr_ne hr.units) sim_ne (le_lamC L__law_how TB rfl (hr.mono hk4) (by show LamX.lamSB d_law.scope _ = true; decide +kernel) (fun A outer s H E f c' hrB => pe_lam_of fun B w tk => le_methN0 (pl := _) (ks := ["picks"]) MN_Disk_crash (hrB.mono ln_Disk_crash) tk (le_var 8) (lk_cons (le_var 15) (lk_nil)))) (le_lst (la_cons (le_str) (la_cons (le_non) (la_nil)))) (nomark _)) (lb_one (ls_ret (le_bl))) (lb_nil)) (lb_cons (ls_if (lt_not (lt_val (le_call C__law_is_so (hr.mono l__law_is_so) (la_cons (le_var 8) (la_cons (le_var 9) (la_cons (le_callB callr_len sim_len rfl b.len boot_len (la_cons (le_var 7) (la_nil))) (la_nil))))))) (lb_one (ls_ret (le_bl))) (lb_nil)) (lb_cons (ls_if (lt_cmp op_notN sim_notN (le_var 13) (le_non) (nomark _)) (lb_cons (ls_if (lt_not (lt_val (le_call C__law_is_so (hr.mono l__law_is_so) (la_cons (le_var 3) (la_cons (le_var 9) (la_cons (le_callB callr_len sim_len rfl b.len boot_len (la_cons (le_var 7) (la_nil))) (la_nil))))))) (lb_one (ls_ret (le_bl))) (lb_nil)) (lb_cons (ls_expr (le_meth0 (pl := _) M_Disk_crash (hr.mono l_Disk_crash) (le_var 3))) (lb_one (ls_set 10 sc.nd (le_lst (la_nil)))))) (lb_nil)) (lb_cons (ls_set 5 sc.nd (le_call C__law_done (hr.mono l__law_done) (la_cons (le_var 5) (la_cons (le_var 7) (la_cons (le_var 10) (la_nil)))))) (lb_cons (ls_if (lt_not (lt_val (le_call C__law_is_so (hr.mono l__law_is_so) (la_cons (le_var 3) (la_cons (le_var 5) (la_cons (le_int) (la_nil))))))) (lb_one (ls_ret (le_bl))) (lb_nil)) (lb_cons (ls_expr (le_meth0 (pl := _) M_Disk_flush (hr.mono l_Disk_flush) (le_var 3))) (lb_one (ls_if (PW.pt (lw_or (lt_not (lt_val (le_call C__law_is_so (hr.mono l__law_is_so) (la_cons (le_var 3) (la_cons (le_var 5) (la_cons (le_int) (la_nil))))))) (lw_or1 (lt_not (lt_val (le_call C__law_is_so (hr.mono l__law_is_so) (la_cons (le_var 8) (la_cons (le_var 9) (la_cons (le_callB callr_len sim_len rfl b.len boot_len (la_cons (le_var 7) (la_nil))) (la_nil)))))))))) (lb_one (ls_ret (le_bl))) (lb_nil))))))))))))))))))))))))))) (lb_one (ls_ret (le_bl)))
end
end K69
end

section
set_option Elab.async false
set_option linter.all false
set_option maxRecDepth 100000
set_option maxHeartbeats 4000000
/-! L3u: the readings, one step each, as equations that are not by rfl (so that simp builds its proof in parts). -/
namespace L3
open PySem PySem.Spec PyProof.Rows L2
theorem u_lListRg {te : TE3} {τ : T3} {G : Gp} {Q : K3} : lListRg te τ G Q = (te τ G fun x G1 => match x with
  | .int n => RgOk 0 n ∧ Q (.lst (rgD 0 n)) G1
  | _ => False) := id rfl
theorem u_sRet {te : TE3} {D : Ends3} {τ : T3} {G : Gp} : sRet te D τ G = (te τ G D.rt) := id rfl
theorem u_sRetN  {D : Ends3} {z1 : T3} {G : Gp} : sRetN D z1 G = (D.rt .non G) := id rfl
theorem u_sSeq {t u : TS3} {D : Ends3} {τ : T3} {G : Gp} : sSeq t u D τ G = (t { D with nx := u D } τ G) := id rfl
theorem u_sIf {c : TT3} {t u : TS3} {D : Ends3} {τ : T3} {G : Gp} : sIf c t u D τ G = (c τ G fun b G1 => if b = true then t D τ G1 else u D τ G1) := id rfl
theorem u_sNever  {z0 : Ends3} {z1 : T3} {z2 : Gp} : sNever z0 z1 z2 = (False) := id rfl
theorem u_sNext  {D : Ends3} {τ : T3} {G : Gp} : sNext D τ G = (D.nx τ G) := id rfl
theorem u_sDrop {te : TE3} {D : Ends3} {τ : T3} {G : Gp} : sDrop te D τ G = (te τ G fun _ G1 => D.nx τ G1) := id rfl
theorem u_sAsg {te : TE3} {g : TG3} {D : Ends3} {τ : T3} {G : Gp} : sAsg te g D τ G = (te τ G fun d G1 => g d τ G1 D.nx) := id rfl
theorem u_sPar {i j : Nat} {ta : TA3} {D : Ends3} {τ : T3} {G : Gp} : sPar i j ta D τ G = (ta τ G fun ds G1 => match ds with
  | [d, e] => D.nx ((τ.set i (some d)).set j (some e)) G1
  | _ => False) := id rfl
theorem u_sAug {i : Nat} {te : TE3} {r : R3} {D : Ends3} {τ : T3} {G : Gp} : sAug i te r D τ G = (match τ[i]? with
  | some (some x) => te τ G fun y G1 => r x y G1 fun z G2 => D.nx (τ.set i (some z)) G2
  | _ => False) := id rfl
theorem u_sGh {t : TS3} {D : Ends3} {τ : T3} {G : Gp} : sGh t D τ G = (∃ G', Frz G G' ∧ t D τ G') := id rfl
theorem u_sBreak  {D : Ends3} {τ : T3} {G : Gp} : sBreak D τ G = (D.bk τ G) := id rfl
theorem u_sCont  {D : Ends3} {τ : T3} {G : Gp} : sCont D τ G = (D.ct τ G) := id rfl
theorem u_lOp {r : R3} {ta tb : TE3} {τ : T3} {G : Gp} {Q : K3} : lOp r ta tb τ G Q = (ta τ G fun x G1 => tb τ G1 fun y G2 => r x y G2 Q) := id rfl
theorem u_lC {d : L3.D} {z0 : T3} {G : Gp} {Q : K3} : lC d z0 G Q = (Q d G) := id rfl
theorem u_lVar {i : Nat} {τ : T3} {G : Gp} {Q : K3} : lVar i τ G Q = (match τ[i]? with
  | some (some d) => Q d G
  | _ => False) := id rfl
theorem u_lTest {t : TE3} {τ : T3} {G : Gp} {Q : Bool → Gp → Prop} : lTest t τ G Q = (t τ G fun d G' => match d with
  | .bl k => Q k G'
  | _ => False) := id rfl
theorem u_lNil  {z0 : T3} {G : Gp} {Q : List L3.D → Gp → Prop} : lNil z0 G Q = (Q [] G) := id rfl
theorem u_lCons {ta : TE3} {tr : TA3} {τ : T3} {G : Gp} {Q : List L3.D → Gp → Prop} : lCons ta tr τ G Q = (ta τ G fun x G1 => tr τ G1 fun xs G2 => Q (x :: xs) G2) := id rfl
theorem u_lAnd {t u : TT3} {τ : T3} {G : Gp} {Q : Bool → Gp → Prop} : lAnd t u τ G Q = (t τ G fun c G1 => if c = true then u τ G1 Q else Q false G1) := id rfl
theorem u_lOr {t u : TT3} {τ : T3} {G : Gp} {Q : Bool → Gp → Prop} : lOr t u τ G Q = (t τ G fun c G1 => if c = true then Q true G1 else u τ G1 Q) := id rfl
theorem u_lNot {t : TT3} {τ : T3} {G : Gp} {Q : Bool → Gp → Prop} : lNot t τ G Q = (t τ G fun c G1 => Q (!c) G1) := id rfl
theorem u_lAndV {ta tb : TE3} {τ : T3} {G : Gp} {Q : K3} : lAndV ta tb τ G Q = (ta τ G fun x G1 => match x with
  | .bl c => if c = true then tb τ G1 Q else Q (.bl false) G1
  | _ => False) := id rfl
theorem u_lOrV {ta tb : TE3} {τ : T3} {G : Gp} {Q : K3} : lOrV ta tb τ G Q = (ta τ G fun x G1 => match x with
  | .bl c => if c = true then Q (.bl true) G1 else tb τ G1 Q
  | _ => False) := id rfl
theorem u_lNotV {ta : TE3} {τ : T3} {G : Gp} {Q : K3} : lNotV ta τ G Q = (ta τ G fun x G1 => match x with
  | .bl c => Q (.bl (!c)) G1
  | _ => False) := id rfl
theorem u_lIf {t : TT3} {ta tb : TE3} {τ : T3} {G : Gp} {Q : K3} : lIf t ta tb τ G Q = (t τ G fun c G1 => if c = true then ta τ G1 Q else tb τ G1 Q) := id rfl
theorem u_lChain {r r' : R3} {ta tb tc : TE3} {τ : T3} {G : Gp} {Q : K3} : lChain r r' ta tb tc τ G Q = (ta τ G fun x G1 => tb τ G1 fun y G2 => r x y G2 fun z G3 => match z with
  | .bl k => if k = true then tc τ G3 fun w G4 => r' y w G4 Q else Q (.bl false) G3
  | _ => False) := id rfl
theorem u_lTup {t : TA3} {τ : T3} {G : Gp} {Q : K3} : lTup t τ G Q = (t τ G fun ds G1 => ds.length ≤ sizeLine ∧ Q (.tup ds) G1) := id rfl
theorem u_lLst {t : TA3} {τ : T3} {G : Gp} {Q : K3} : lLst t τ G Q = (t τ G fun ds G1 => ds.length ≤ sizeLine ∧ Q (.lst ds) G1) := id rfl
theorem u_lLstG {t : TA3} {τ : T3} {G : Gp} {Q : K3} : lLstG t τ G Q = (t τ G fun ds G1 => ds.length ≤ sizeLine ∧ ∀ p, G1 p = none → Q (.ref p) (gup G1 p (.lst ds))) := id rfl
theorem u_lCB {r : RC3} {t : TA3} {τ : T3} {G : Gp} {Q : K3} : lCB r t τ G Q = (t τ G fun ds G1 => r ds G1 Q) := id rfl
theorem u_lCall {sp : Sp3} {ddv : List L3.D} {t : TA3} {τ : T3} {G : Gp} {Q : K3} : lCall sp ddv t τ G Q = (t τ G fun ds G1 => sp (ds ++ ddv) G1 Q) := id rfl
theorem u_lIsi {T : Ty} {te : TE3} {τ : T3} {G : Gp} {Q : K3} : lIsi T te τ G Q = (te τ G fun d G1 => match kdOf G1 d with
    | some k => Q (.bl (isTy T k)) G1
    | none => False) := id rfl
theorem u_lIsi2 {T U : Ty} {te : TE3} {τ : T3} {G : Gp} {Q : K3} : lIsi2 T U te τ G Q = (te τ G fun d G1 => match kdOf G1 d with
    | some k => Q (.bl (isTy T k || isTy U k)) G1
    | none => False) := id rfl
theorem u_lSl {r : RS3} {t : TE3} {tl th : TO3} {τ : T3} {G : Gp} {Q : K3} : lSl r t tl th τ G Q = (t τ G fun x G1 => tl τ G1 fun l G2 => th τ G2 fun u G3 => r x l u G3 Q) := id rfl
theorem u_lNoPart  {z0 : T3} {G : Gp} {Q : Option Int → Gp → Prop} : lNoPart z0 G Q = (Q none G) := id rfl
theorem u_lPart {t : TE3} {τ : T3} {G : Gp} {Q : Option Int → Gp → Prop} : lPart t τ G Q = (t τ G fun d G' => match d with
  | .int i => Q (some i) G'
  | _ => False) := id rfl
theorem u_lNeg {te : TE3} {τ : T3} {G : Gp} {Q : K3} : lNeg te τ G Q = (te τ G fun d G1 => match d with
  | .int i => Q (.int (-i)) G1
  | _ => False) := id rfl
theorem u_lJoin {to te : TE3} {τ : T3} {G : Gp} {Q : K3} : lJoin to te τ G Q = (to τ G fun x G1 => match x with
  | .str a => te τ G1 fun y G2 => (match (itemsOf G2 y).bind strsOf with
    | some ys => (ys.map (·.length)).sum + ys.length * a.length ≤ 16777216 ∧ Q (.str (Txt.join a ys)) G2
    | none => False)
  | _ => False) := id rfl
theorem u_lSplit {to te : TE3} {τ : T3} {G : Gp} {Q : K3} : lSplit to te τ G Q = (to τ G fun x G1 => match x with
  | .str a => te τ G1 fun y G2 => (match y with
    | .str b => (b.length == 0) = false ∧ a.length + 2 ≤ sizeLine ∧ Q (.lst ((Txt.split a b).map .str)) G2
    | _ => False)
  | _ => False) := id rfl
theorem u_lWords {to : TE3} {τ : T3} {G : Gp} {Q : K3} : lWords to τ G Q = (to τ G fun x G1 => match x with
  | .str a => a.length + 2 ≤ sizeLine ∧ Q (.lst ((Txt.words a).map .str)) G1
  | _ => False) := id rfl
theorem u_gName3 {i : Nat} {d : L3.D} {τ : T3} {G : Gp} {Q : T3 → Gp → Prop} : gName3 i d τ G Q = (Q (τ.set i (some d)) G) := id rfl
theorem u_gNil3  {ds : List L3.D} {τ : T3} {G : Gp} {Q : T3 → Gp → Prop} : gNil3 ds τ G Q = (match ds with
  | [] => Q τ G
  | _ => False) := id rfl
theorem u_gCons3 {t : TG3} {u : TGs3} {ds : List L3.D} {τ : T3} {G : Gp} {Q : T3 → Gp → Prop} : gCons3 t u ds τ G Q = (match ds with
  | d :: r => t d τ G fun τ' G' => u r τ' G' Q
  | [] => False) := id rfl
theorem u_gTup3 {n : Nat} {t : TGs3} {d : L3.D} {τ : T3} {G : Gp} {Q : T3 → Gp → Prop} : gTup3 n t d τ G Q = (match d with
  | .tup ds => ds.length = n ∧ t ds τ G Q
  | _ => False) := id rfl
theorem u_gStar3 {i : Nat} {t : TGs3} {d : L3.D} {τ : T3} {G : Gp} {Q : T3 → Gp → Prop} : gStar3 i t d τ G Q = (match itemsOf G d with
  | some ds => i ≤ ds.length ∧ t (ds.take i ++ [.lst (ds.drop i)]) τ G Q
  | none => False) := id rfl
theorem u_gSub3 {to ti : TE3} {y : L3.D} {τ : T3} {G : Gp} {Q : T3 → Gp → Prop} : gSub3 to ti y τ G Q = (to τ G fun o G1 => ti τ G1 fun i G2 => match o, i with
  | .ref p, .int k => (match G2 p with
    | some (.lst xs) => ∃ j, ixN xs.length k = some j ∧ Q τ (gup G2 p (.lst (xs.set j y)))
    | _ => False)
  | _, _ => False) := id rfl
theorem u_iLst3 {te : TE3} {τ : T3} {G : Gp} {R : List L3.D → Gp → Prop} : iLst3 te τ G R = (te τ G fun d G1 => match d with
  | .lst ds => R ds G1
  | _ => False) := id rfl
theorem u_iTup3 {te : TE3} {τ : T3} {G : Gp} {R : List L3.D → Gp → Prop} : iTup3 te τ G R = (te τ G fun d G1 => match d with
  | .tup ds => R ds G1
  | _ => False) := id rfl
theorem u_iStr3 {te : TE3} {τ : T3} {G : Gp} {R : List L3.D → Gp → Prop} : iStr3 te τ G R = (te τ G fun d G1 => match d with
  | .str z => R (sgL z) G1
  | _ => False) := id rfl
theorem u_iRg1 {te : TE3} {τ : T3} {G : Gp} {R : List L3.D → Gp → Prop} : iRg1 te τ G R = (te τ G fun d G1 => match d with
  | .int n => (-(2 ^ 62) ≤ n ∧ n < 2 ^ 62) ∧ R (rgL 0 n.toNat) G1
  | _ => False) := id rfl
theorem u_iRg2 {ta tb : TE3} {τ : T3} {G : Gp} {R : List L3.D → Gp → Prop} : iRg2 ta tb τ G R = (ta τ G fun d G1 => tb τ G1 fun d2 G2 => match d, d2 with
  | .int a, .int b => (-(2 ^ 62) ≤ a ∧ a < 2 ^ 62 ∧ -(2 ^ 62) ≤ b ∧ b < 2 ^ 62) ∧ R (rgL a (b - a).toNat) G2
  | _, _ => False) := id rfl
theorem u_iEnum3 {te : TE3} {τ : T3} {G : Gp} {R : List L3.D → Gp → Prop} : iEnum3 te τ G R = (te τ G fun d G1 => match d with
  | .lst ds => R (enL ds) G1
  | _ => False) := id rfl
theorem u_iZip3 {ta tb : TE3} {τ : T3} {G : Gp} {R : List L3.D → Gp → Prop} : iZip3 ta tb τ G R = (ta τ G fun d G1 => tb τ G1 fun d2 G2 => match d, d2 with
  | .lst ds, .lst es => R (zpL ds es) G2
  | _, _ => False) := id rfl
theorem u_iZipT3 {ta tb : TE3} {τ : T3} {G : Gp} {R : List L3.D → Gp → Prop} : iZipT3 ta tb τ G R = (ta τ G fun d G1 => tb τ G1 fun d2 G2 => match d, d2 with
  | .tup ds, .tup es => R (zpL ds es) G2
  | _, _ => False) := id rfl
theorem u_iZipS3 {ta tb : TE3} {τ : T3} {G : Gp} {R : List L3.D → Gp → Prop} : iZipS3 ta tb τ G R = (ta τ G fun d G1 => tb τ G1 fun d2 G2 => match d, d2 with
  | .tup ds, .tup es => ds.length = es.length ∧ R (zpL ds es) G2
  | _, _ => False) := id rfl
theorem u_tYes3  {z0 : T3} {G : Gp} {Q : Bool → Gp → Prop} : tYes3 z0 G Q = (Q true G) := id rfl
theorem u_lFld {K : PySem.W.Frag} {f : Str} {te : TE3} {τ : T3} {G : Gp} {Q : K3} : lFld K f te τ G Q = (te τ G fun d G1 => ∃ C fs d', insOf G1 d = some (C, fs) ∧ Cls K C ∧ NoAttr K C f ∧ fs.lookup f = some d' ∧ Q d' G1) := id rfl
theorem u_lMeth {C : Addr} {m : Str} {sp : Sp3} {ddv : List L3.D} {te : TE3} {t : TA3} {τ : T3} {G : Gp} {Q : K3} : lMeth C m sp ddv te t τ G Q = (te τ G fun d G1 => ∃ fs, insOf G1 d = some (C, fs) ∧ fs.lookup m = none ∧ t τ G1 fun ds G2 => sp (d :: (ds ++ ddv)) G2 Q) := id rfl
theorem u_lMake {C : Addr} {sp : Sp3} {ddv : List L3.D} {t : TA3} {τ : T3} {G : Gp} {Q : K3} : lMake C sp ddv t τ G Q = (t τ G fun ds G1 => ∀ p, G1 p = none → sp (.ref p :: (ds ++ ddv)) (gup G1 p (.ins C [])) fun d G2 => d = .non ∧ Q (.ref p) G2) := id rfl
theorem u_lFrz {te : TE3} {τ : T3} {G : Gp} {Q : K3} : lFrz te τ G Q = (te τ G fun d G1 => match d with
  | .ref p => (match G1 p with
    | some (.lst ds) => Q (.lst ds) (gdel G1 p)
    | some (.dic ds) => Q (.dic ds) (gdel G1 p)
    | some (.ins C ds) => Q (.ins C ds) (gdel G1 p)
    | _ => False)
  | d => Q d G1) := id rfl
theorem u_lLm {r : Addr → List L3.D → List L3.D → Gp → K3 → Prop} {to : TE3} {t : TA3} {τ : T3} {G : Gp} {Q : K3} : lLm r to t τ G Q = (to τ G fun d G1 => match d with
  | .ref p => (match G1 p with
    | some (.lst _) => t τ G1 fun ds G2 => (match G2 p with
      | some (.lst xs) => r p xs ds G2 Q
      | _ => False)
    | _ => False)
  | _ => False) := id rfl
theorem u_lDNew  {z0 : T3} {G : Gp} {Q : K3} : lDNew z0 G Q = (∀ p, G p = none → Q (.ref p) (gup G p (.dic []))) := id rfl
theorem u_lDGet2 {td ty tx : TE3} {τ : T3} {G : Gp} {Q : K3} : lDGet2 td ty tx τ G Q = (td τ G fun d G1 => (dicOf G1 d).isSome = true ∧ ty τ G1 fun y G2 => tx τ G2 fun z G3 => match dicOf G3 d, keyD y with
  | some kvs, some k => Q ((valD kvs k).getD z) G3
  | _, _ => False) := id rfl
theorem u_lDSetd {td ty tx : TE3} {τ : T3} {G : Gp} {Q : K3} : lDSetd td ty tx τ G Q = (td τ G fun d G1 => (dicOf G1 d).isSome = true ∧ ty τ G1 fun y G2 => tx τ G2 fun z G3 => match d with
  | .ref p => (match G3 p, keyD y with
    | some (.dic kvs), some k => kvs.length < sizeLine ∧ (match valD kvs k with
      | some v => Q v G3
      | none => Q z (gup G3 p (.dic (putKD kvs k z))))
    | _, _ => False)
  | _ => False) := id rfl
theorem u_lCallA {i : Nat} {S : Addr → Option Sp3} {t : TA3} {τ : T3} {G : Gp} {Q : K3} : lCallA i S t τ G Q = (match τ[i]? with
  | some (some (.ref f)) => (match S f with
    | some sp => t τ G fun ds G1 => sp ds G1 Q
    | none => False)
  | _ => False) := id rfl
theorem u_sFld3 {K : PySem.W.Frag} {to tw : TE3} {f : Str} {D : Ends3} {τ : T3} {G : Gp} : sFld3 K to tw f D τ G = (tw τ G fun y G1 => to τ G1 fun x G2 => match x with
  | .ref p => (match G2 p with
    | some (.ins C fs) => Cls K C ∧ NoAttr K C f ∧ fs.length < 1000 ∧ D.nx τ (gup G2 p (.ins C (putD f y fs)))
    | _ => False)
  | _ => False) := id rfl
end L3
end

section
set_option Elab.async false
set_option linter.all false
set_option maxRecDepth 100000
set_option maxHeartbeats 4000000
/-! L3m: statements one behind the other, for simp: the rest is not carried along where it is not needed. -/
namespace L3
open PySem PySem.Spec PyProof.Rows L2
section
variable {D : Ends3} {τ : T3} {G : Gp} {t u v : TS3} {te : TE3} {c : TT3} {g : TG3} {li : TI3} {i j : Nat} {ta : TA3} {r : R3}
theorem ss_if : sSeq (sIf c t u) v D τ G = c τ G fun b G1 => if b = true then sSeq t v D τ G1 else sSeq u v D τ G1 := id rfl
theorem ss_asg : sSeq (sAsg te g) v D τ G = te τ G fun d G1 => g d τ G1 fun τ' G' => v D τ' G' := id rfl
theorem ss_drop : sSeq (sDrop te) v D τ G = te τ G fun _ G1 => v D τ G1 := id rfl
theorem ss_ret : sSeq (sRet te) v D τ G = te τ G D.rt := id rfl
theorem ss_retN : sSeq sRetN v D τ G = D.rt .non G := id rfl
theorem ss_next : sSeq sNext v D τ G = v D τ G := id rfl
theorem ss_never : sSeq sNever v D τ G = False := id rfl
theorem ss_break : sSeq sBreak v D τ G = D.bk τ G := id rfl
theorem ss_cont : sSeq sCont v D τ G = D.ct τ G := id rfl
theorem ss_seq : sSeq (sSeq t u) v D τ G = sSeq t (sSeq u v) D τ G := id rfl
theorem ss_par : sSeq (sPar i j ta) v D τ G = ta τ G fun ds G1 => match ds with
  | [d, e] => v D ((τ.set i (some d)).set j (some e)) G1
  | _ => False := id rfl
theorem ss_aug : sSeq (sAug i te r) v D τ G = match τ[i]? with
  | some (some x) => te τ G fun y G1 => r x y G1 fun z G2 => v D (τ.set i (some z)) G2
  | _ => False := id rfl
theorem ss_gh : sSeq (sGh t) v D τ G = ∃ G', Frz G G' ∧ sSeq t v D τ G' := id rfl
theorem ss_fld {K : PySem.W.Frag} {to tw : TE3} {f : Str} : sSeq (sFld3 K to tw f) v D τ G = tw τ G fun y G1 => to τ G1 fun x G2 => match x with
  | .ref p => (match G2 p with
    | some (.ins C fs) => Cls K C ∧ NoAttr K C f ∧ fs.length < 1000 ∧ v D τ (gup G2 p (.ins C (putD f y fs)))
    | _ => False)
  | _ => False := id rfl
theorem ss_for : sSeq (sFor li g t) v D τ G = li τ G fun ds G1 => ∃ W : Nat → T3 → Gp → Prop, W 0 τ G1 ∧ (∀ i d τ G, ds[i]? = some d → W i τ G → g d τ G fun τ2 G2 => t { D with nx := W (i + 1), ct := W (i + 1), bk := v D } τ2 G2) ∧ ∀ τ G, W ds.length τ G → v D τ G := id rfl
theorem ss_while {tb : TS3} : sSeq (sWhile c tb) v D τ G = ∃ W : Nat → T3 → Gp → Prop, (∃ m, W m τ G) ∧ ∀ m τ G, W m τ G → c τ G fun b G1 => if b = true then tb { D with nx := fun τ' G' => ∃ m', m' < m ∧ W m' τ' G', ct := fun τ' G' => ∃ m', m' < m ∧ W m' τ' G', bk := v D } τ G1 else v D τ G1 := id rfl
theorem ss_frz : sSeq (sFrz i t) v D τ G = match τ[i]? with
  | some (some (.ref p)) => (match G p with
    | some (.lst ds) => sSeq t v D (τ.set i (some (.lst ds))) (gdel G p)
    | some (.dic ds) => sSeq t v D (τ.set i (some (.dic ds))) (gdel G p)
    | some (.ins C ds) => sSeq t v D (τ.set i (some (.ins C ds))) (gdel G p)
    | _ => False)
  | _ => False := id rfl
end
end L3
end

section
set_option Elab.async false
set_option linter.all false
set_option maxRecDepth 100000
set_option maxHeartbeats 1000000
namespace L3
open PySem PySem.Spec PyProof.Rows L2
section
variable {K : PySem.W.Frag} {τ : T3} {G : Gp} {Q : K3} {D : Ends3}
theorem u_lDIn {neg : Bool} {ty td : TE3} : lDIn neg ty td τ G Q = (ty τ G fun y G1 => td τ G1 fun d G2 => match dicOf G2 d, keyD y with
  | some kvs, some k => Q (.bl (xor neg (valD kvs k).isSome)) G2
  | _, _ => False) := id rfl
theorem u_lDIx {td ty : TE3} : lDIx td ty τ G Q = (td τ G fun d G1 => ty τ G1 fun y G2 => match dicOf G2 d, keyD y with
  | some kvs, some k => ∃ v, valD kvs k = some v ∧ Q v G2
  | _, _ => False) := id rfl
theorem u_lDPop1 {td ty : TE3} : lDPop1 td ty τ G Q = (td τ G fun d G1 => ∃ p kvs0, d = .ref p ∧ G1 p = some (.dic kvs0) ∧ ty τ G1 fun y G2 => match G2 p, keyD y with
  | some (.dic kvs), some k => ∃ v, valD kvs k = some v ∧ Q v (gup G2 p (.dic (dropKD kvs k)))
  | _, _ => False) := id rfl
theorem u_gDSub {to ti : TE3} {y : L3.D} {R : T3 → Gp → Prop} : gDSub to ti y τ G R = (to τ G fun o G1 => ti τ G1 fun i G2 => match o with
  | .ref p => (match G2 p, keyD i with
    | some (.dic kvs), some k => kvs.length < sizeLine ∧ R τ (gup G2 p (.dic (putKD kvs k y)))
    | _, _ => False)
  | _ => False) := id rfl
theorem u_gFld3 {to : TE3} {f : Str} {y : L3.D} {R : T3 → Gp → Prop} : gFld3 K to f y τ G R = (to τ G fun x G2 => match x with
  | .ref p => (match G2 p with
    | some (.ins C fs) => Cls K C ∧ NoAttr K C f ∧ fs.length < 1000 ∧ R τ (gup G2 p (.ins C (putD f y fs)))
    | _ => False)
  | _ => False) := id rfl
theorem u_sForP {li : TIP} {g : TG3} {tb : TS3} : sForP li g tb D τ G = (li τ G fun ds P G1 => ∃ W : Nat → T3 → Gp → Prop, W 0 τ G1 ∧ (∀ i τ G, W i τ G → P G) ∧ (∀ i d τ G, ds[i]? = some d → W i τ G → g d τ G fun τ2 G2 => tb { D with nx := W (i + 1), ct := W (i + 1), bk := D.nx } τ2 G2) ∧ ∀ τ G, W ds.length τ G → D.nx τ G) := id rfl
theorem ss_forP {li : TIP} {g : TG3} {tb v : TS3} : sSeq (sForP li g tb) v D τ G = (li τ G fun ds P G1 => ∃ W : Nat → T3 → Gp → Prop, W 0 τ G1 ∧ (∀ i τ G, W i τ G → P G) ∧ (∀ i d τ G, ds[i]? = some d → W i τ G → g d τ G fun τ2 G2 => tb { nx := W (i + 1), rt := D.rt, ct := W (i + 1), bk := v D } τ2 G2) ∧ ∀ τ G, W ds.length τ G → v D τ G) := id rfl
theorem u_iLive {te : TE3} {R : List L3.D → (Gp → Prop) → Gp → Prop} : iLive te τ G R = (te τ G fun d G1 => match lstOf G1 d with
  | some ds => R ds (fun G' => lstOf G' d = some ds) G1
  | none => False) := id rfl
theorem u_iZipL {ta tb : TE3} {R : List L3.D → (Gp → Prop) → Gp → Prop} : iZipL ta tb τ G R = (ta τ G fun d G1 => tb τ G1 fun d2 G2 => match lstOf G2 d, lstOf G2 d2 with
  | some ds, some es => R (zpL ds es) (fun G' => lstOf G' d = some ds ∧ lstOf G' d2 = some es) G2
  | _, _ => False) := id rfl
theorem u_iEnumQ3 {te : TE3} {R : List L3.D → Gp → Prop} : iEnumQ3 te τ G R = (te τ G fun d G1 => match d with
  | .lst ds => R (enL ds) G1
  | .tup ds => R (enL ds) G1
  | _ => False) := id rfl
theorem u_lMethE {C : Addr} {m : Str} {sp : SpE} {ddv : List L3.D} {w : WE3} {te : TE3} {t : TA3} : lMethE C m sp ddv w te t τ G Q = (te τ G fun d G1 => ∃ fs, insOf G1 d = some (C, fs) ∧ fs.lookup m = none ∧ t τ G1 fun ds G2 => sp (d :: (ds ++ ddv)) G2 Q (upW w τ)) := id rfl
theorem u_sRaise1 {C : Addr} {f : Str} {te : TE3} {w : WE3} : sRaise1 C f te w D τ G = (te τ G fun y G1 => ∀ dd, G1 dd = none → w C (some dd) τ (gup G1 dd (.xd [(f, y)]))) := id rfl
theorem u_sRaise0 {C : Addr} {w : WE3} : sRaise0 C w D τ G = w C none τ G := id rfl
theorem ss_raise1 {C : Addr} {f : Str} {te : TE3} {w : WE3} {v : TS3} : sSeq (sRaise1 C f te w) v D τ G = (te τ G fun y G1 => ∀ dd, G1 dd = none → w C (some dd) τ (gup G1 dd (.xd [(f, y)]))) := id rfl
theorem ss_raise0 {C : Addr} {w : WE3} {v : TS3} : sSeq (sRaise0 C w) v D τ G = w C none τ G := id rfl
theorem u_sFor {li : TI3} {g : TG3} {t : TS3} : sFor li g t D τ G = (li τ G fun ds G1 => ∃ W : Nat → T3 → Gp → Prop, W 0 τ G1 ∧ (∀ i d τ G, ds[i]? = some d → W i τ G → g d τ G fun τ2 G2 => t { D with nx := W (i + 1), ct := W (i + 1), bk := D.nx } τ2 G2) ∧ ∀ τ G, W ds.length τ G → D.nx τ G) := id rfl
end
end L3
end

section
set_option Elab.async false
set_option linter.all false
set_option maxRecDepth 100000
set_option maxHeartbeats 4000000
/-! PPa: plain data; what papers, queries, grounds are. -/
namespace PP
open PySem PySem.Spec PyProof.Rows L2 L3

/-! ### plain data, nested at most n -/
def fine : Nat → D → Bool
  | _, .non => true
  | _, .bl _ => true
  | _, .int _ => true
  | _, .str x => PyData.strOk x && decide (x.length ≤ 4096)
  | n + 1, .lst xs => decide (xs.length ≤ 4096) && xs.all (fine n)
  | n + 1, .tup xs => decide (xs.length ≤ 4096) && xs.all (fine n)
  | _, _ => false
theorem fine_str {n : Nat} {x : Str} (h : fine n (.str x) = true) : PyData.strOk x = true ∧ x.length ≤ 4096 := by
  cases n <;> simpa [fine] using h
theorem fine_str_of {n : Nat} {x : Str} (h1 : PyData.strOk x = true) (h2 : x.length ≤ 4096) : fine n (.str x) = true := by
  cases n <;> simp [fine, h1, h2]
theorem fine_tup {n : Nat} {xs : List D} (h : fine n (.tup xs) = true) : ∃ m, n = m + 1 ∧ xs.length ≤ 4096 ∧ ∀ x ∈ xs, fine m x = true := by
  cases n with
  | zero => simp [fine] at h
  | succ m =>
    simp only [fine, Bool.and_eq_true, decide_eq_true_eq, List.all_eq_true] at h
    exact ⟨m, rfl, h.1, h.2⟩
theorem fine_lst {n : Nat} {xs : List D} (h : fine n (.lst xs) = true) : ∃ m, n = m + 1 ∧ xs.length ≤ 4096 ∧ ∀ x ∈ xs, fine m x = true := by
  cases n with
  | zero => simp [fine] at h
  | succ m =>
    simp only [fine, Bool.and_eq_true, decide_eq_true_eq, List.all_eq_true] at h
    exact ⟨m, rfl, h.1, h.2⟩
theorem fine_tup_of {n : Nat} {xs : List D} (h1 : xs.length ≤ 4096) (h2 : ∀ x ∈ xs, fine n x = true) : fine (n + 1) (.tup xs) = true := by
  simp only [fine, Bool.and_eq_true, decide_eq_true_eq, List.all_eq_true]
  exact ⟨h1, h2⟩
theorem fine_lst_of {n : Nat} {xs : List D} (h1 : xs.length ≤ 4096) (h2 : ∀ x ∈ xs, fine n x = true) : fine (n + 1) (.lst xs) = true := by
  simp only [fine, Bool.and_eq_true, decide_eq_true_eq, List.all_eq_true]
  exact ⟨h1, h2⟩
theorem fine_up : ∀ {n : Nat} {d : D}, fine n d = true → fine (n + 1) d = true
  | n, .non, _ => by simp [fine]
  | n, .bl _, _ => by simp [fine]
  | n, .int _, _ => by simp [fine]
  | n, .str x, h => fine_str_of (fine_str h).1 (fine_str h).2
  | n, .lst xs, h => by
    obtain ⟨m, rfl, h1, h2⟩ := fine_lst h
    exact fine_lst_of h1 fun x hx => fine_up (h2 x hx)
  | n, .tup xs, h => by
    obtain ⟨m, rfl, h1, h2⟩ := fine_tup h
    exact fine_tup_of h1 fun x hx => fine_up (h2 x hx)
  | n, .ty _, h => by cases n <;> simp [fine] at h
  | n, .ref _, h => by cases n <;> simp [fine] at h
  | n, .dic _, h => by cases n <;> simp [fine] at h
  | n, .ins _ _, h => by cases n <;> simp [fine] at h
  | n, .scr _, h => by cases n <;> simp [fine] at h
theorem fine_le {n m : Nat} {d : D} (h : fine n d = true) (hm : n ≤ m) : fine m d = true := by
  induction hm with
  | refl => exact h
  | step _ ih => exact fine_up ih
theorem pys_map : ∀ xs : List D, pys xs = xs.map py
  | [] => rfl
  | x :: xs => by show py x :: pys xs = _; rw [pys_map xs]; rfl
theorem lay_all : ∀ {xs : List PyData}, (∀ x ∈ xs, x.canLay0 = true) → PyData.canLayAll0 xs = true
  | [], _ => by simp [PyData.canLayAll0]
  | x :: xs, h => by
    have h2 := lay_all (xs := xs) fun y hy => h y (List.mem_cons_of_mem _ hy)
    simp only [PyData.canLayAll0, h x List.mem_cons_self, h2, Bool.and_self]
theorem depth_all {n : Nat} : ∀ {xs : List PyData}, (∀ x ∈ xs, x.depth ≤ n) → PyData.depthAll xs ≤ n
  | [], _ => by simp [PyData.depthAll]
  | x :: xs, h => by
    have h1 := h x (by simp)
    have h2 := depth_all fun y hy => h y (List.mem_cons_of_mem _ hy)
    simp only [PyData.depthAll]
    omega
theorem fine_py : ∀ {n : Nat} {d : D}, fine n d = true → (py d).canLay0 = true ∧ (py d).depth ≤ n
  | n, .non, _ => by simp [py, PyData.canLay0, PyData.depth]
  | n, .bl _, _ => by simp [py, PyData.canLay0, PyData.depth]
  | n, .int _, _ => by simp [py, PyData.canLay0, PyData.depth]
  | n, .str x, h => by simp [py, PyData.canLay0, PyData.depth, (fine_str h).1]
  | n, .lst xs, h => by
    obtain ⟨m, rfl, h1, h2⟩ := fine_lst h
    have h3 : ∀ x ∈ pys xs, x.canLay0 = true ∧ x.depth ≤ m := fun y hy => by
      rw [pys_map] at hy
      obtain ⟨x, hx, rfl⟩ := List.mem_map.mp hy
      exact fine_py (h2 x hx)
    exact ⟨by simp only [py, PyData.canLay0]; exact lay_all fun x hx => (h3 x hx).1, by simp only [py, PyData.depth]; exact Nat.succ_le_succ (depth_all fun x hx => (h3 x hx).2)⟩
  | n, .tup xs, h => by
    obtain ⟨m, rfl, h1, h2⟩ := fine_tup h
    have h3 : ∀ x ∈ pys xs, x.canLay0 = true ∧ x.depth ≤ m := fun y hy => by
      rw [pys_map] at hy
      obtain ⟨x, hx, rfl⟩ := List.mem_map.mp hy
      exact fine_py (h2 x hx)
    exact ⟨by simp only [py, PyData.canLay0]; exact lay_all fun x hx => (h3 x hx).1, by simp only [py, PyData.depth]; exact Nat.succ_le_succ (depth_all fun x hx => (h3 x hx).2)⟩
  | n, .ty _, h => by cases n <;> simp [fine] at h
  | n, .ref _, h => by cases n <;> simp [fine] at h
  | n, .dic _, h => by cases n <;> simp [fine] at h
  | n, .ins _ _, h => by cases n <;> simp [fine] at h
  | n, .scr _, h => by cases n <;> simp [fine] at h
theorem fine_ok {n : Nat} {d : D} (h : fine n d = true) (hn : n ≤ 64) : okD d := by
  obtain ⟨h1, h2⟩ := fine_py h
  show (_ && decide _) = true
  rw [h1, decide_eq_true (Nat.le_trans h2 hn)]; rfl
theorem eqD_refl {n : Nat} {d : D} (h : fine n d = true) : eqD d d = true := SeqAt.eqv_refl _ (fine_py h).1
/-- the kinds of plain data -/
def kd : D → Kd
  | .non => .non | .bl _ => .bool | .int _ => .int | .str _ => .str | .lst _ => .list | .tup _ => .tuple | _ => .dict
theorem kd_of {n : Nat} {d : D} {G : Gp} (h : fine n d = true) : kdOf G d = some (kd d) := by
  cases d with
  | ty _ => cases n <;> simp [fine] at h
  | ref _ => cases n <;> simp [fine] at h
  | dic _ => cases n <;> simp [fine] at h
  | ins _ _ => cases n <;> simp [fine] at h
  | scr _ => cases n <;> simp [fine] at h
  | _ => rfl

/-! ### readings at plain data -/
theorem q_len_str {z : Str} {G : Gp} {Q : K3} (h : z.length ≤ 4096) : rLen3 [.str z] G Q = Q (.int z.length) G := by
  have e : lenD G (.str z) = some z.length := if_pos (Nat.le_trans h (by decide))
  simp only [rLen3, e]
theorem q_len_lst {xs : List D} {G : Gp} {Q : K3} : rLen3 [.lst xs] G Q = Q (.int xs.length) G := rfl
theorem q_len_tup {xs : List D} {G : Gp} {Q : K3} : rLen3 [.tup xs] G Q = Q (.int xs.length) G := rfl
theorem q_lt {i j : Int} {G : Gp} {Q : K3} : rLt3 (.int i) (.int j) G Q = Q (.bl (decide (i < j))) G := rfl
theorem q_le {i j : Int} {G : Gp} {Q : K3} : rLe3 (.int i) (.int j) G Q = Q (.bl (decide (i ≤ j))) G := rfl
theorem q_gt {i j : Int} {G : Gp} {Q : K3} : rGt3 (.int i) (.int j) G Q = Q (.bl (decide (j < i))) G := rfl
theorem q_ge {i j : Int} {G : Gp} {Q : K3} : rGe3 (.int i) (.int j) G Q = Q (.bl (decide (j ≤ i))) G := rfl
theorem q_add {i j : Int} {G : Gp} {Q : K3} : rAdd3 (.int i) (.int j) G Q = Q (.int (i + j)) G := rfl
theorem q_sub {i j : Int} {G : Gp} {Q : K3} : rSub3 (.int i) (.int j) G Q = Q (.int (i - j)) G := rfl
theorem q_mul {i j : Int} {G : Gp} {Q : K3} : rMul3 (.int i) (.int j) G Q = (CMul i j ∧ Q (.int (i * j)) G) := rfl
theorem q_div {i j : Int} {G : Gp} {Q : K3} : rDiv3 (.int i) (.int j) G Q = (CDiv i j ∧ Q (.int (i / j)) G) := rfl
theorem q_mod {i j : Int} {G : Gp} {Q : K3} : rMod3 (.int i) (.int j) G Q = (0 < j ∧ Q (.int (i % j)) G) := rfl
theorem q_pow {i j : Int} {G : Gp} {Q : K3} : rPow3 (.int i) (.int j) G Q = (CPow i j ∧ Q (.int (i ^ j.toNat)) G) := rfl
theorem q_addT {a b : List D} {G : Gp} {Q : K3} : rAdd3 (.tup a) (.tup b) G Q = (a.length + b.length ≤ sizeLine ∧ Q (.tup (a ++ b)) G) := rfl
theorem q_addL {a b : List D} {G : Gp} {Q : K3} : rAdd3 (.lst a) (.lst b) G Q = (a.length + b.length ≤ sizeLine ∧ Q (.lst (a ++ b)) G) := rfl
theorem eqv_int {i j : Int} : PyData.eqv (.int i) (.int j) = decide (i = j) := by
  simp only [PyData.eqv]
  rw [Bool.eq_iff_iff]; simp
theorem eqv_str {a b : Str} : PyData.eqv (.str a) (.str b) = decide (a = b) := by
  simp only [PyData.eqv]
  rw [Bool.eq_iff_iff]; simp
theorem eqv_bl {a b : Bool} : PyData.eqv (.bool a) (.bool b) = decide (a = b) := by
  cases a <;> cases b <;> decide +kernel
end PP
end

section
set_option Elab.async false
set_option linter.all false
set_option maxRecDepth 100000
set_option maxHeartbeats 4000000
/-! PPb: queries, places, grounds: what they mean, in plain Lean. -/
namespace PP
open PySem PySem.Spec PyProof.Rows L2 L3

def letters : List Nat := (Str.ofString "abcdefghijklmnopqrstuvwxyz").cps.toList
def isWS (z : Str) : Bool := decide (1 ≤ z.length) && (decide (z.length ≤ 12) && z.cps.toList.all fun c => decide (c ∈ letters))
def isWD : D → Bool
  | .str z => isWS z
  | _ => false
theorem isWS_ok {z : Str} (h : isWS z = true) : 1 ≤ z.length ∧ z.length ≤ 12 ∧ ∀ c ∈ z.cps.toList, c ∈ letters := by
  unfold isWS at h
  simp only [Bool.and_eq_true, decide_eq_true_eq, List.all_eq_true] at h
  exact ⟨h.1, h.2.1, h.2.2⟩
theorem letters_low : ∀ c ∈ letters, c < 256 ∧ c ≠ 32 := by decide +kernel
theorem isWS_fine {z : Str} {n : Nat} (h : isWS z = true) : fine n (.str z) = true := by
  obtain ⟨_, h2, h3⟩ := isWS_ok h
  refine fine_str_of ?_ (by omega)
  unfold PyData.strOk
  rw [Array.all_eq_true']
  intro c hc
  have := (letters_low c (h3 c (by simpa using hc))).1
  simp; omega
theorem isWD_str {d : D} (h : isWD d = true) : ∃ z, d = .str z ∧ isWS z = true := by
  cases d with
  | str z => exact ⟨z, rfl, h⟩
  | _ => cases h

/-! ### places -/
def poss (held : List Str) (w : Str) : List Nat := (List.range held.length).filter fun i => decide (held[i]? = some w)
theorem mem_poss {held : List Str} {w : Str} {i : Nat} : i ∈ poss held w ↔ held[i]? = some w := by
  unfold poss
  simp only [List.mem_filter, List.mem_range, decide_eq_true_eq]
  refine ⟨fun h => h.2, fun h => ⟨(List.getElem?_eq_some_iff.mp h).1, h⟩⟩
def seqAt (held ws : List Str) (i : Nat) : Bool := decide ((held.drop i).take ws.length = ws)
def dist (i j : Int) : Int := if i - j < 0 then -(i - j) else i - j
def nearOk (far i j : Int) : Bool := decide (1 ≤ dist i j) && decide (dist i j ≤ far)
def nearP (held : List Str) (far : Int) (a b : Str) : List (Nat × Nat) := (poss held a).flatMap fun (i : Nat) => ((poss held b).filter fun (j : Nat) => nearOk far (i : Int) (j : Int)).map fun (j : Nat) => (i, j)
def phrP (held ws : List Str) : List Nat := (poss held (ws.headD Str.empty)).filter (seqAt held ws)
def standB (held ws : List Str) : D → Bool
  | .int i => decide (0 ≤ i) && seqAt held ws i.toNat
  | _ => false
def nearI (far : Int) : D → D → Bool
  | .int i, .int j => nearOk far i j
  | _, _ => false
def nearB (held : List Str) (far : Int) (a b : Str) (x y : D) : Bool := standB held [a] x && (standB held [b] y && nearI far x y)
theorem seqAt_head {held ws : List Str} {i : Nat} {w : Str} {r : List Str} (e : ws = w :: r) (h : seqAt held ws i = true) : held[i]? = some w := by
  unfold seqAt at h
  have h1 := of_decide_eq_true h
  rw [e] at h1
  have h2 : ((held.drop i).take (w :: r).length)[0]? = some w := by rw [h1]; rfl
  rw [List.getElem?_take] at h2
  simpa using h2
theorem mem_phrP {held ws : List Str} {i : Nat} (hne : ws ≠ []) : i ∈ phrP held ws ↔ seqAt held ws i = true := by
  unfold phrP
  rw [List.mem_filter, mem_poss]
  cases ws with
  | nil => exact absurd rfl hne
  | cons w r => exact ⟨fun h => h.2, fun h => ⟨seqAt_head rfl h, h⟩⟩
theorem seqAt_one {held : List Str} {w : Str} {i : Nat} : seqAt held [w] i = true ↔ held[i]? = some w := by
  refine ⟨fun h => seqAt_head rfl h, fun h => ?_⟩
  unfold seqAt
  refine decide_eq_true ?_
  obtain ⟨h1, h2⟩ := List.getElem?_eq_some_iff.mp h
  rw [List.drop_eq_getElem_cons h1, h2]; simp
theorem mem_nearP {held : List Str} {far : Int} {a b : Str} {i j : Nat} : (i, j) ∈ nearP held far a b ↔ held[i]? = some a ∧ held[j]? = some b ∧ nearOk far i j = true := by
  unfold nearP
  simp only [List.mem_flatMap, List.mem_map, List.mem_filter, Prod.mk.injEq, mem_poss]
  constructor
  · rintro ⟨i', h1, j', ⟨h2, h3⟩, rfl, rfl⟩; exact ⟨h1, h2, h3⟩
  · rintro ⟨h1, h2, h3⟩; exact ⟨i, h1, j, ⟨h2, h3⟩, rfl, rfl⟩
theorem standB_int {held ws : List Str} {x : D} (h : standB held ws x = true) : ∃ i : Nat, x = .int i ∧ seqAt held ws i = true := by
  cases x with
  | int i =>
    unfold standB at h
    simp only [Bool.and_eq_true, decide_eq_true_eq] at h
    exact ⟨i.toNat, by rw [Int.toNat_of_nonneg h.1], h.2⟩
  | _ => cases h
theorem standB_of {held ws : List Str} {i : Nat} : standB held ws (.int i) = seqAt held ws i := by
  simp [standB]

/-! ### queries -/
def strsD (ps : List D) : List Str := ps.filterMap fun d => match d with
  | .str z => some z
  | _ => none
theorem strsD_map : ∀ ws : List Str, strsD (ws.map D.str) = ws
  | [] => rfl
  | w :: ws => by
    show w :: strsD (ws.map D.str) = _
    rw [strsD_map ws]
inductive WQ : Nat → D → Prop where
  | word (n : Nat) (w : Str) (h : isWS w = true) : WQ (n + 1) (.tup [.str "word", .str w])
  | phrase (n : Nat) (ws : List Str) (h2 : 2 ≤ ws.length) (h5 : ws.length ≤ 5) (h : ∀ w ∈ ws, isWS w = true) : WQ (n + 1) (.tup (.str "phrase" :: ws.map .str))
  | near (n : Nat) (far : Int) (a b : Str) (h1 : 1 ≤ far) (h2 : far ≤ 20) (ha : isWS a = true) (hb : isWS b = true) : WQ (n + 1) (.tup [.str "near", .int far, .str a, .str b])
  | conj (n : Nat) (qs : List D) (h2 : 2 ≤ qs.length) (h4 : qs.length ≤ 4) (h : ∀ q ∈ qs, WQ n q) : WQ (n + 1) (.tup (.str "and" :: qs))
  | disj (n : Nat) (qs : List D) (h2 : 2 ≤ qs.length) (h4 : qs.length ≤ 4) (h : ∀ q ∈ qs, WQ n q) : WQ (n + 1) (.tup (.str "or" :: qs))
  | but (n : Nat) (a b : D) (ha : WQ n a) (hb : WQ n b) : WQ (n + 1) (.tup [.str "but", a, b])
theorem WQ.up {n : Nat} {q : D} (h : WQ n q) : WQ (n + 1) q := by
  induction h with
  | word n w h => exact .word _ w h
  | phrase n ws h2 h5 h => exact .phrase _ ws h2 h5 h
  | near n far a b h1 h2 ha hb => exact .near _ far a b h1 h2 ha hb
  | conj n qs h2 h4 h ih => exact .conj _ qs h2 h4 ih
  | disj n qs h2 h4 h ih => exact .disj _ qs h2 h4 ih
  | but n a b ha hb iha ihb => exact .but _ a b iha ihb
theorem WQ.le {n m : Nat} {q : D} (h : WQ n q) (hm : n ≤ m) : WQ m q := by
  induction hm with
  | refl => exact h
  | step _ ih => exact ih.up
theorem WQ.fine {n : Nat} {q : D} (h : WQ n q) : fine n q = true := by
  induction h with
  | word n w h => exact fine_tup_of (by simp) (by simp [isWS_fine h, fine_str_of (x := "word") (by decide +kernel) (by decide +kernel)])
  | phrase n ws h2 h5 h => exact fine_tup_of (by simp; omega) (by
      intro x hx
      rcases List.mem_cons.mp hx with rfl | hx
      · exact fine_str_of (by decide +kernel) (by decide +kernel)
      · obtain ⟨w, hw, rfl⟩ := List.mem_map.mp hx
        exact isWS_fine (h w hw))
  | near n far a b h1 h2 ha hb => exact fine_tup_of (by simp) (by simp [isWS_fine ha, isWS_fine hb, fine_str_of (x := "near") (by decide +kernel) (by decide +kernel), PP.fine])
  | conj n qs h2 h4 h ih => exact fine_tup_of (by simp; omega) (by
      intro x hx
      rcases List.mem_cons.mp hx with rfl | hx
      · exact fine_str_of (by decide +kernel) (by decide +kernel)
      · exact ih x hx)
  | disj n qs h2 h4 h ih => exact fine_tup_of (by simp; omega) (by
      intro x hx
      rcases List.mem_cons.mp hx with rfl | hx
      · exact fine_str_of (by decide +kernel) (by decide +kernel)
      · exact ih x hx)
  | but n a b ha hb iha ihb => exact fine_tup_of (by simp) (by simp [iha, ihb, fine_str_of (x := "but") (by decide +kernel) (by decide +kernel)])

def placesD (held : List Str) : D → List D
  | .tup (.str k :: ps) => if k = "near" then (match ps with
      | [.int far, .str a, .str b] => (nearP held far a b).map fun (p : Nat × Nat) => D.tup [.int (p.1 : Int), .int (p.2 : Int)]
      | _ => []) else (phrP held (strsD ps)).map fun (i : Nat) => D.int (i : Int)
  | _ => []
def holdsIn (held : List Str) : Nat → D → Bool
  | n + 1, .tup (.str k :: ps) => if k = "and" then ps.all (holdsIn held n) else if k = "or" then ps.any (holdsIn held n) else if k = "but" then (match ps with
      | [a, b] => holdsIn held n a && !holdsIn held n b
      | _ => false) else !(placesD held (.tup (.str k :: ps))).isEmpty
  | _, _ => false
/-! ### grounds -/
def firstOf (w : Str) : Nat → List D → D
  | _, [] => .non
  | i, g :: gs => if isNonD g = true then firstOf w (i + 1) gs else .tup [.str w, .int i, g]
def allOf (gs : List D) : D := if gs.any isNonD = true then .non else .tup (.str "all" :: gs)
def butOf (g h : D) : D := if (isNonD g || isNonD h) = true then .non else .tup [.str "but", g, h]
def elseOf (g h : D) : D := if isNonD g = false then .tup [.str "first", g] else if isNonD h = true then .non else .tup [.str "second", h]
def atOf (k : Str) (p : D) : D := if k = "near" then (match p with
  | .tup [i, j] => .tup [.str "at", i, j]
  | _ => .non) else .tup [.str "at", p]
def gnd (held : List Str) : Nat → D → Bool → D
  | n + 1, .tup (.str k :: ps), yes => if k = "and" then (if yes = true then allOf (ps.map fun p => gnd held n p true) else firstOf "lacks" 0 (ps.map fun p => gnd held n p false))
    else if k = "or" then (if yes = true then firstOf "some" 0 (ps.map fun p => gnd held n p true) else allOf (ps.map fun p => gnd held n p false))
    else if k = "but" then (match ps with
      | [a, b] => if yes = true then butOf (gnd held n a true) (gnd held n b false) else elseOf (gnd held n a false) (gnd held n b true)
      | _ => .non)
    else if yes = true then (match placesD held (.tup (.str k :: ps)) with
      | [] => .non
      | p :: _ => atOf k p)
    else if (placesD held (.tup (.str k :: ps))).isEmpty = true then .tup [.str "none"] else .non
  | _, _, _ => .non
def isGr (g : D) (w : Str) (many : Nat) : Bool := match g with
  | .tup (.str k :: r) => decide (r.length = many) && decide (k = w)
  | _ => false
def nthD (g : D) (i : Nat) : D := match g with
  | .tup xs => xs.getD i .non
  | _ => .non
def tailD (g : D) : List D := match g with
  | .tup xs => xs.tail
  | _ => []
def hAt (held : List Str) (k : Str) (ps : List D) (g : D) : Bool := if k = "near" then (match ps with
    | [.int far, .str a, .str b] => isGr g "at" 2 && nearB held far a b (nthD g 1) (nthD g 2)
    | _ => false) else isGr g "at" 1 && standB held (strsD ps) (nthD g 1)
def foundAt (held : List Str) (k : Str) (ps : List D) : List Bool := if k = "near" then (match ps with
    | [.int far, .str a, .str b] => (List.range held.length).flatMap fun i => (List.range held.length).map fun j => nearB held far a b (.int (i : Nat)) (.int (j : Nat))
    | _ => []) else (List.range held.length).map fun i => standB held (strsD ps) (.int (i : Nat))
def hNone (held : List Str) (k : Str) (ps : List D) : Bool := !(foundAt held k ps).any id
def hGr (held : List Str) : Nat → D → D → Bool → Bool
  | n + 1, .tup (.str k :: ps), g, yes =>
    if k = "and" ∨ k = "or" then (if decide (k = "and") = yes then isGr g "all" ps.length && (ps.zip (tailD g)).all fun p => hGr held n p.1 p.2 yes
      else isGr g (if yes = true then "some" else "lacks") 2 && (match nthD g 1 with
        | .int i => decide (0 ≤ i) && (decide (i < ps.length) && hGr held n (ps.getD i.toNat .non) (nthD g 2) yes)
        | _ => false))
    else if k = "but" then (match ps with
      | [a, b] => if yes = true then isGr g "but" 2 && (hGr held n a (nthD g 1) true && hGr held n b (nthD g 2) false)
        else if isGr g "first" 1 = true then hGr held n a (nthD g 1) false else isGr g "second" 1 && hGr held n b (nthD g 1) true
      | _ => false)
    else if yes = true then hAt held k ps g else isGr g "none" 0 && hNone held k ps
  | _, _, _, _ => false

/-! ### each kind by itself -/
section
variable {held : List Str} {n : Nat} {ps : List D} {a b : D} {g : D} {yes : Bool} {w : Str} {ws : List Str} {far : Int} {x y : Str}
theorem holdsIn_and : holdsIn held (n + 1) (.tup (.str "and" :: ps)) = ps.all (holdsIn held n) := rfl
theorem holdsIn_or : holdsIn held (n + 1) (.tup (.str "or" :: ps)) = ps.any (holdsIn held n) := rfl
theorem holdsIn_but : holdsIn held (n + 1) (.tup [.str "but", a, b]) = (holdsIn held n a && !holdsIn held n b) := rfl
theorem holdsIn_word : holdsIn held (n + 1) (.tup (.str "word" :: ps)) = !(placesD held (.tup (.str "word" :: ps))).isEmpty := rfl
theorem holdsIn_phrase : holdsIn held (n + 1) (.tup (.str "phrase" :: ps)) = !(placesD held (.tup (.str "phrase" :: ps))).isEmpty := rfl
theorem holdsIn_near : holdsIn held (n + 1) (.tup (.str "near" :: ps)) = !(placesD held (.tup (.str "near" :: ps))).isEmpty := rfl
theorem placesD_word : placesD held (.tup (.str "word" :: ps)) = (phrP held (strsD ps)).map fun (i : Nat) => D.int (i : Int) := rfl
theorem placesD_phrase : placesD held (.tup (.str "phrase" :: ps)) = (phrP held (strsD ps)).map fun (i : Nat) => D.int (i : Int) := rfl
theorem placesD_near : placesD held (.tup [.str "near", .int far, .str x, .str y]) = (nearP held far x y).map fun p => .tup [.int (p.1 : Nat), .int (p.2 : Nat)] := rfl
theorem gnd_and_t : gnd held (n + 1) (.tup (.str "and" :: ps)) true = allOf (ps.map fun p => gnd held n p true) := rfl
theorem gnd_and_f : gnd held (n + 1) (.tup (.str "and" :: ps)) false = firstOf "lacks" 0 (ps.map fun p => gnd held n p false) := rfl
theorem gnd_or_t : gnd held (n + 1) (.tup (.str "or" :: ps)) true = firstOf "some" 0 (ps.map fun p => gnd held n p true) := rfl
theorem gnd_or_f : gnd held (n + 1) (.tup (.str "or" :: ps)) false = allOf (ps.map fun p => gnd held n p false) := rfl
theorem gnd_but_t : gnd held (n + 1) (.tup [.str "but", a, b]) true = butOf (gnd held n a true) (gnd held n b false) := rfl
theorem gnd_but_f : gnd held (n + 1) (.tup [.str "but", a, b]) false = elseOf (gnd held n a false) (gnd held n b true) := rfl
def gLeaf (held : List Str) (k : Str) (ps : List D) (yes : Bool) : D := if yes = true then (match placesD held (.tup (.str k :: ps)) with
      | [] => .non
      | p :: _ => atOf k p)
    else if (placesD held (.tup (.str k :: ps))).isEmpty = true then .tup [.str "none"] else .non
theorem gnd_word : gnd held (n + 1) (.tup (.str "word" :: ps)) yes = gLeaf held "word" ps yes := rfl
theorem gnd_phrase : gnd held (n + 1) (.tup (.str "phrase" :: ps)) yes = gLeaf held "phrase" ps yes := rfl
theorem gnd_near : gnd held (n + 1) (.tup (.str "near" :: ps)) yes = gLeaf held "near" ps yes := rfl
def hAll (held : List Str) (n : Nat) (ps : List D) (g : D) (yes : Bool) : Bool := isGr g "all" ps.length && (ps.zip (tailD g)).all fun p => hGr held n p.1 p.2 yes
def hOne (held : List Str) (n : Nat) (ps : List D) (g : D) (w : Str) (yes : Bool) : Bool := isGr g w 2 && (match nthD g 1 with
        | .int i => decide (0 ≤ i) && (decide (i < ps.length) && hGr held n (ps.getD i.toNat .non) (nthD g 2) yes)
        | _ => false)
def hBut (held : List Str) (n : Nat) (a b : D) (g : D) (yes : Bool) : Bool := if yes = true then isGr g "but" 2 && (hGr held n a (nthD g 1) true && hGr held n b (nthD g 2) false)
        else if isGr g "first" 1 = true then hGr held n a (nthD g 1) false else isGr g "second" 1 && hGr held n b (nthD g 1) true
def hLeaf (held : List Str) (k : Str) (ps : List D) (g : D) (yes : Bool) : Bool := if yes = true then hAt held k ps g else isGr g "none" 0 && hNone held k ps
theorem hGr_and_t : hGr held (n + 1) (.tup (.str "and" :: ps)) g true = hAll held n ps g true := rfl
theorem hGr_and_f : hGr held (n + 1) (.tup (.str "and" :: ps)) g false = hOne held n ps g "lacks" false := rfl
theorem hGr_or_t : hGr held (n + 1) (.tup (.str "or" :: ps)) g true = hOne held n ps g "some" true := rfl
theorem hGr_or_f : hGr held (n + 1) (.tup (.str "or" :: ps)) g false = hAll held n ps g false := rfl
theorem hGr_but : hGr held (n + 1) (.tup [.str "but", a, b]) g yes = hBut held n a b g yes := rfl
theorem hGr_word : hGr held (n + 1) (.tup (.str "word" :: ps)) g yes = hLeaf held "word" ps g yes := rfl
theorem hGr_phrase : hGr held (n + 1) (.tup (.str "phrase" :: ps)) g yes = hLeaf held "phrase" ps g yes := rfl
theorem hGr_near : hGr held (n + 1) (.tup (.str "near" :: ps)) g yes = hLeaf held "near" ps g yes := rfl
theorem hAt_word : hAt held "word" ps g = (isGr g "at" 1 && standB held (strsD ps) (nthD g 1)) := rfl
theorem hAt_phrase : hAt held "phrase" ps g = (isGr g "at" 1 && standB held (strsD ps) (nthD g 1)) := rfl
theorem hAt_near : hAt held "near" [.int far, .str x, .str y] g = (isGr g "at" 2 && nearB held far x y (nthD g 1) (nthD g 2)) := rfl
end
end PP
end

section
set_option Elab.async false
set_option linter.all false
set_option maxRecDepth 100000
set_option maxHeartbeats 4000000
/-! PPc: a query holds just where its yes ground is found; what a ground shows is so. -/
namespace PP
open PySem PySem.Spec PyProof.Rows L2 L3

theorem firstOf_non {w : Str} : ∀ {gs : List D} {i : Nat}, isNonD (firstOf w i gs) = gs.all isNonD
  | [], i => rfl
  | g :: gs, i => by
    unfold firstOf
    cases e : isNonD g with
    | true => rw [if_pos rfl, firstOf_non, List.all_cons, e, Bool.true_and]
    | false => rw [if_neg Bool.false_ne_true, List.all_cons, e, Bool.false_and]; rfl
theorem firstOf_some {w : Str} : ∀ {gs : List D} {i : Nat}, isNonD (firstOf w i gs) = false → ∃ j g, gs[j]? = some g ∧ isNonD g = false ∧ firstOf w i gs = .tup [.str w, .int ((i + j : Nat) : Int), g]
  | [], i, h => by simp [firstOf, isNonD] at h
  | g :: gs, i, h => by
    unfold firstOf at h ⊢
    cases e : isNonD g with
    | true =>
      rw [e, if_pos rfl] at h
      obtain ⟨j, g', h1, h2, h3⟩ := firstOf_some h
      refine ⟨j + 1, g', by simpa using h1, h2, ?_⟩
      rw [if_pos rfl, h3, Nat.add_assoc, Nat.add_comm 1 j]
    | false => exact ⟨0, g, rfl, e, by rw [if_neg Bool.false_ne_true]; rfl⟩
theorem allOf_non {gs : List D} : isNonD (allOf gs) = gs.any isNonD := by
  unfold allOf
  cases e : gs.any isNonD with
  | true => rw [if_pos rfl]; rfl
  | false => rw [if_neg Bool.false_ne_true]; rfl
theorem allOf_some {gs : List D} (h : isNonD (allOf gs) = false) : allOf gs = .tup (.str "all" :: gs) := by
  rw [allOf_non] at h
  unfold allOf
  rw [h, if_neg Bool.false_ne_true]

theorem isGr_of0 {w : Str} {x y : D} : isGr (.tup [.str w, x, y]) w 2 = true := by simp [isGr]
theorem isGr_ne {k w : Str} {r : List D} {m : Nat} (h : k ≠ w) : isGr (.tup (.str k :: r)) w m = false := by simp [isGr, h]
/-! ### leaves -/
structure LeafOk (held : List Str) (k : Str) (ps : List D) : Prop where
  none : hNone held k ps = (placesD held (.tup (.str k :: ps))).isEmpty
  at_ : ∀ g, hAt held k ps g = true → (placesD held (.tup (.str k :: ps))).isEmpty = false
  got : ∀ p r, placesD held (.tup (.str k :: ps)) = p :: r → hAt held k ps (atOf k p) = true ∧ isNonD (atOf k p) = false
theorem empty_mem {α : Type} {xs : List α} {x : α} (h : x ∈ xs) : xs.isEmpty = false := by
  cases xs with
  | nil => cases h
  | cons _ _ => rfl
theorem any_id_false {xs : List Bool} (h : ∀ b ∈ xs, b = false) : xs.any id = false := by
  rw [List.any_eq_false]
  intro b hb
  rw [h b hb]; simp
theorem leaf_seq {held : List Str} {k : Str} (hk : k ≠ "near") {ws : List Str} (hw : ws ≠ []) : LeafOk held k (ws.map .str) := by
  have e1 : placesD held (.tup (.str k :: ws.map .str)) = (phrP held ws).map fun (i : Nat) => D.int (i : Int) := by
    show (if k = "near" then _ else _) = _
    rw [if_neg hk, strsD_map]
  have e2 : ∀ g, hAt held k (ws.map .str) g = (isGr g "at" 1 && standB held ws (nthD g 1)) := fun g => by
    unfold hAt; rw [if_neg hk, strsD_map]
  have e3 : hNone held k (ws.map .str) = !((List.range held.length).map fun (i : Nat) => standB held ws (.int (i : Int))).any id := by
    unfold hNone foundAt; rw [if_neg hk, strsD_map]
  refine ⟨?_, fun g h => ?_, fun p r h => ?_⟩
  · rw [e3, e1]
    cases e : phrP held ws with
    | nil =>
      rw [any_id_false]
      · rfl
      · intro b hb
        obtain ⟨i, hi, rfl⟩ := List.mem_map.mp hb
        cases e4 : standB held ws (.int (i : Int)) with
        | false => rfl
        | true =>
          rw [standB_of] at e4
          have := (mem_phrP hw).mpr e4
          rw [e] at this; cases this
    | cons i r =>
      have hi : i ∈ phrP held ws := by rw [e]; exact List.mem_cons_self
      have hs := (mem_phrP hw).mp hi
      have hl : i < held.length := by
        unfold phrP at hi
        exact (List.getElem?_eq_some_iff.mp (mem_poss.mp (List.mem_filter.mp hi).1)).1
      have : ((List.range held.length).map fun (i : Nat) => standB held ws (.int (i : Int))).any id = true := by
        rw [List.any_eq_true]
        exact ⟨true, List.mem_map.mpr ⟨i, List.mem_range.mpr hl, by rw [standB_of]; exact hs⟩, rfl⟩
      rw [this]; rfl
  · rw [e2] at h
    obtain ⟨i, _, h2⟩ := standB_int (Bool.and_eq_true_iff.mp h).2
    rw [e1]
    exact empty_mem (List.mem_map.mpr ⟨i, (mem_phrP hw).mpr h2, rfl⟩)
  · rw [e1] at h
    have hp : p ∈ (phrP held ws).map fun (i : Nat) => D.int (i : Int) := by rw [h]; exact List.mem_cons_self
    obtain ⟨i, hi, rfl⟩ := List.mem_map.mp hp
    have e4 : atOf k (.int (i : Int)) = .tup [.str "at", .int (i : Int)] := by unfold atOf; rw [if_neg hk]
    rw [e2, e4]
    refine ⟨?_, rfl⟩
    show (_ && standB held ws (.int (i : Int))) = true
    rw [standB_of, (mem_phrP hw).mp hi]; rfl
theorem leaf_near {held : List Str} {far : Int} {a b : Str} : LeafOk held "near" [.int far, .str a, .str b] := by
  have key : ∀ {x y : D}, nearB held far a b x y = true → ∃ i j : Nat, x = .int i ∧ y = .int j ∧ (i, j) ∈ nearP held far a b := by
    intro x y h
    unfold nearB at h
    simp only [Bool.and_eq_true] at h
    obtain ⟨h1, h2, h3⟩ := h
    obtain ⟨i, rfl, h1⟩ := standB_int h1
    obtain ⟨j, rfl, h2⟩ := standB_int h2
    exact ⟨i, j, rfl, rfl, mem_nearP.mpr ⟨seqAt_one.mp h1, seqAt_one.mp h2, h3⟩⟩
  have yek : ∀ {i j : Nat}, (i, j) ∈ nearP held far a b → nearB held far a b (.int i) (.int j) = true := by
    intro i j h
    obtain ⟨h1, h2, h3⟩ := mem_nearP.mp h
    unfold nearB
    rw [standB_of, standB_of, seqAt_one.mpr h1, seqAt_one.mpr h2]
    exact h3
  have e1 : placesD held (.tup [.str "near", .int far, .str a, .str b]) = (nearP held far a b).map fun (p : Nat × Nat) => D.tup [.int (p.1 : Int), .int (p.2 : Int)] := rfl
  have e3 : hNone held "near" [.int far, .str a, .str b] = !((List.range held.length).flatMap fun i => (List.range held.length).map fun j => nearB held far a b (.int (i : Nat)) (.int (j : Nat))).any id := rfl
  refine ⟨?_, fun g h => ?_, fun p r h => ?_⟩
  · rw [e3, e1]
    cases e : nearP held far a b with
    | nil =>
      rw [any_id_false]
      · rfl
      · intro c hc
        obtain ⟨i, hi, hc⟩ := List.mem_flatMap.mp hc
        obtain ⟨j, hj, rfl⟩ := List.mem_map.mp hc
        cases e4 : nearB held far a b (.int (i : Nat)) (.int (j : Nat)) with
        | false => rfl
        | true =>
          obtain ⟨i', j', _, _, h⟩ := key e4
          rw [e] at h; cases h
    | cons p r =>
      obtain ⟨i, j⟩ := p
      have hi : (i, j) ∈ nearP held far a b := by rw [e]; exact List.mem_cons_self
      obtain ⟨h1, h2, h3⟩ := mem_nearP.mp hi
      have : ((List.range held.length).flatMap fun i => (List.range held.length).map fun j => nearB held far a b (.int (i : Nat)) (.int (j : Nat))).any id = true := by
        rw [List.any_eq_true]
        exact ⟨true, List.mem_flatMap.mpr ⟨i, List.mem_range.mpr (List.getElem?_eq_some_iff.mp h1).1, List.mem_map.mpr ⟨j, List.mem_range.mpr (List.getElem?_eq_some_iff.mp h2).1, yek hi⟩⟩, rfl⟩
      rw [this]; rfl
  · rw [hAt_near] at h
    obtain ⟨i, j, _, _, h2⟩ := key (Bool.and_eq_true_iff.mp h).2
    rw [e1]
    exact empty_mem (List.mem_map.mpr ⟨(i, j), h2, rfl⟩)
  · rw [e1] at h
    have hp : p ∈ (nearP held far a b).map fun (p : Nat × Nat) => D.tup [.int (p.1 : Int), .int (p.2 : Int)] := by rw [h]; exact List.mem_cons_self
    obtain ⟨⟨i, j⟩, hi, rfl⟩ := List.mem_map.mp hp
    refine ⟨?_, rfl⟩
    show hAt held "near" [.int far, .str a, .str b] (.tup [.str "at", .int (i : Int), .int (j : Int)]) = true
    rw [hAt_near, isGr_of0, Bool.true_and]
    exact yek hi

/-! ### all of it -/
structure QOk (held : List Str) (n : Nat) (q : D) : Prop where
  yes : isNonD (gnd held n q true) = !holdsIn held n q
  no : isNonD (gnd held n q false) = holdsIn held n q
  sound : ∀ g yes, hGr held n q g yes = true → holdsIn held n q = yes
  told : ∀ yes, isNonD (gnd held n q yes) = false → hGr held n q (gnd held n q yes) yes = true
theorem gLeaf_ok {held : List Str} {k : Str} {ps : List D} (L : LeafOk held k ps) :
    isNonD (gLeaf held k ps true) = (placesD held (.tup (.str k :: ps))).isEmpty ∧ isNonD (gLeaf held k ps false) = (!(placesD held (.tup (.str k :: ps))).isEmpty) ∧
    (∀ g yes, hLeaf held k ps g yes = true → (!(placesD held (.tup (.str k :: ps))).isEmpty) = yes) ∧ ∀ yes, isNonD (gLeaf held k ps yes) = false → hLeaf held k ps (gLeaf held k ps yes) yes = true := by
  have t1 : isNonD (gLeaf held k ps true) = (placesD held (.tup (.str k :: ps))).isEmpty := by
    unfold gLeaf
    rw [if_pos rfl]
    cases e : placesD held (.tup (.str k :: ps)) with
    | nil => rfl
    | cons p r => exact (L.got p r e).2
  have t2 : isNonD (gLeaf held k ps false) = (!(placesD held (.tup (.str k :: ps))).isEmpty) := by
    unfold gLeaf
    rw [if_neg Bool.false_ne_true]
    cases e : (placesD held (.tup (.str k :: ps))).isEmpty with
    | true => rw [if_pos rfl]; rfl
    | false => rw [if_neg Bool.false_ne_true]; rfl
  refine ⟨t1, t2, fun g yes h => ?_, fun yes h => ?_⟩
  · unfold hLeaf at h
    cases yes with
    | true =>
      rw [if_pos rfl] at h
      rw [L.at_ g h]; rfl
    | false =>
      rw [if_neg Bool.false_ne_true, L.none] at h
      rw [(Bool.and_eq_true_iff.mp h).2]; rfl
  · cases yes with
    | true =>
      rw [t1] at h
      unfold hLeaf gLeaf
      rw [if_pos rfl, if_pos rfl]
      cases e : placesD held (.tup (.str k :: ps)) with
      | nil => rw [e] at h; cases h
      | cons p r => exact (L.got p r e).1
    | false =>
      rw [t2] at h
      have h' : (placesD held (.tup (.str k :: ps))).isEmpty = true := by simpa using h
      unfold hLeaf gLeaf
      rw [if_neg Bool.false_ne_true, if_neg Bool.false_ne_true, if_pos h', L.none, h']; rfl
theorem nn_not {b : Bool} : (!b) = true ↔ b = false := by cases b <;> simp
theorem isGr_parts {g : D} {w : Str} {m : Nat} (h : isGr g w m = true) : ∃ r, g = .tup (.str w :: r) ∧ r.length = m := by
  unfold isGr at h
  split at h
  · rename_i k r
    simp only [Bool.and_eq_true, decide_eq_true_eq] at h
    exact ⟨r, by rw [h.2], h.1⟩
  · cases h
theorem isGr_of {w : Str} {r : List D} {m : Nat} (h : r.length = m) : isGr (.tup (.str w :: r)) w m = true := by
  simp [isGr, h]
theorem all_congr' {α : Type} {xs : List α} {p q : α → Bool} (h : ∀ x ∈ xs, p x = q x) : xs.all p = xs.all q := by
  induction xs with
  | nil => rfl
  | cons x xs ih => rw [List.all_cons, List.all_cons, h x List.mem_cons_self, ih fun y hy => h y (List.mem_cons_of_mem _ hy)]
theorem any_congr' {α : Type} {xs : List α} {p q : α → Bool} (h : ∀ x ∈ xs, p x = q x) : xs.any p = xs.any q := by
  induction xs with
  | nil => rfl
  | cons x xs ih => rw [List.any_cons, List.any_cons, h x List.mem_cons_self, ih fun y hy => h y (List.mem_cons_of_mem _ hy)]
/-- every part shows -/
theorem hAll_sound {held : List Str} {n : Nat} {ps : List D} {g : D} {yes : Bool} (ih : ∀ q ∈ ps, QOk held n q) (h : hAll held n ps g yes = true) : ∀ q ∈ ps, holdsIn held n q = yes := by
  unfold hAll at h
  simp only [Bool.and_eq_true, List.all_eq_true] at h
  obtain ⟨h1, h2⟩ := h
  obtain ⟨r, rfl, hl⟩ := isGr_parts h1
  intro q hq
  obtain ⟨i, hi, rfl⟩ := List.mem_iff_getElem.mp hq
  have hm : (ps[i], r[i]'(by omega)) ∈ ps.zip (tailD (.tup (.str "all" :: r))) := by
    show _ ∈ ps.zip r
    refine List.mem_iff_getElem.mpr ⟨i, by rw [List.length_zip]; omega, by rw [List.getElem_zip]⟩
  exact (ih _ hq).sound _ _ (h2 _ hm)
theorem hAll_told {held : List Str} {n : Nat} {ps : List D} {yes : Bool} (ih : ∀ q ∈ ps, QOk held n q) (h : isNonD (allOf (ps.map fun p => gnd held n p yes)) = false) : hAll held n ps (allOf (ps.map fun p => gnd held n p yes)) yes = true := by
  rw [allOf_some h]
  rw [allOf_non, List.any_eq_false] at h
  unfold hAll
  rw [isGr_of (by rw [List.length_map]), Bool.true_and, List.all_eq_true]
  rintro ⟨a, b⟩ hm
  have hm' : (a, b) ∈ ps.zip (ps.map fun p => gnd held n p yes) := hm
  obtain ⟨i, hi, e⟩ := List.mem_iff_getElem.mp hm'
  rw [List.getElem_zip, List.getElem_map] at e
  rw [List.length_zip, List.length_map] at hi
  cases e
  have hq : ps[i]'(by omega) ∈ ps := List.getElem_mem _
  refine (ih _ hq).told yes ?_
  have h2 := h _ (List.mem_map.mpr ⟨_, hq, rfl⟩)
  simpa using h2
theorem hOne_sound {held : List Str} {n : Nat} {ps : List D} {g : D} {w : Str} {yes : Bool} (ih : ∀ q ∈ ps, QOk held n q) (h : hOne held n ps g w yes = true) : ∃ q ∈ ps, holdsIn held n q = yes := by
  unfold hOne at h
  simp only [Bool.and_eq_true] at h
  obtain ⟨_, h2⟩ := h
  split at h2
  · rename_i i e
    simp only [Bool.and_eq_true, decide_eq_true_eq] at h2
    obtain ⟨h3, h4, h5⟩ := h2
    have hi : i.toNat < ps.length := by omega
    have hq : ps[i.toNat] ∈ ps := List.getElem_mem _
    refine ⟨_, hq, (ih _ hq).sound (nthD g 2) _ ?_⟩
    have e2 : ps.getD i.toNat .non = ps[i.toNat] := by simp [hi]
    rw [← e2]; exact h5
  · cases h2
theorem hOne_told {held : List Str} {n : Nat} {ps : List D} {w : Str} {yes : Bool} (ih : ∀ q ∈ ps, QOk held n q) (h : isNonD (firstOf w 0 (ps.map fun p => gnd held n p yes)) = false) : hOne held n ps (firstOf w 0 (ps.map fun p => gnd held n p yes)) w yes = true := by
  obtain ⟨j, g, h1, h2, h3⟩ := firstOf_some h
  rw [h3]
  rw [List.getElem?_map] at h1
  cases e : ps[j]? with
  | none => rw [e] at h1; cases h1
  | some q =>
    rw [e] at h1
    cases Option.some.inj h1
    have hq : q ∈ ps := List.mem_of_getElem? e
    have hj : j < ps.length := (List.getElem?_eq_some_iff.mp e).1
    unfold hOne
    rw [isGr_of (by rfl), Bool.true_and]
    show (decide _ && (decide _ && hGr held n (ps.getD (((0 + j : Nat) : Int)).toNat .non) (gnd held n q yes) yes)) = true
    have e2 : ps.getD (((0 + j : Nat) : Int)).toNat .non = q := by
      rw [Int.toNat_natCast, Nat.zero_add, List.getD_eq_getElem?_getD, e]; rfl
    rw [e2, (ih q hq).told yes h2, decide_eq_true (by omega), decide_eq_true (by omega)]; rfl
theorem qok {held : List Str} {n : Nat} {q : D} (h : WQ n q) : QOk held n q := by
  induction h with
  | word n w h =>
    obtain ⟨a1, a2, a3, a4⟩ := gLeaf_ok (leaf_seq (held := held) (k := "word") (by decide) (ws := [w]) (by simp))
    exact ⟨by rw [gnd_word, holdsIn_word, Bool.not_not]; exact a1, by rw [gnd_word, holdsIn_word]; exact a2, fun g yes h => by rw [hGr_word] at h; rw [holdsIn_word]; exact a3 g yes h, fun yes h => by rw [gnd_word] at h ⊢; rw [hGr_word]; exact a4 yes h⟩
  | phrase n ws h2 h5 h =>
    obtain ⟨a1, a2, a3, a4⟩ := gLeaf_ok (leaf_seq (held := held) (k := "phrase") (by decide) (ws := ws) (by intro e; rw [e] at h2; simp at h2))
    exact ⟨by rw [gnd_phrase, holdsIn_phrase, Bool.not_not]; exact a1, by rw [gnd_phrase, holdsIn_phrase]; exact a2, fun g yes h => by rw [hGr_phrase] at h; rw [holdsIn_phrase]; exact a3 g yes h, fun yes h => by rw [gnd_phrase] at h ⊢; rw [hGr_phrase]; exact a4 yes h⟩
  | near n far a b h1 h2 ha hb =>
    obtain ⟨a1, a2, a3, a4⟩ := gLeaf_ok (leaf_near (held := held) (far := far) (a := a) (b := b))
    exact ⟨by rw [gnd_near, holdsIn_near, Bool.not_not]; exact a1, by rw [gnd_near, holdsIn_near]; exact a2, fun g yes h => by rw [hGr_near] at h; rw [holdsIn_near]; exact a3 g yes h, fun yes h => by rw [gnd_near] at h ⊢; rw [hGr_near]; exact a4 yes h⟩
  | conj n qs h2 h4 h ih =>
    refine ⟨?_, ?_, fun g yes h => ?_, fun yes h => ?_⟩
    · rw [gnd_and_t, allOf_non, holdsIn_and, List.any_map, List.not_all_eq_any_not]
      exact any_congr' fun q hq => (ih q hq).yes
    · rw [gnd_and_f, firstOf_non, holdsIn_and, List.all_map]
      exact all_congr' fun q hq => (ih q hq).no
    · rw [holdsIn_and]
      cases yes with
      | true =>
        rw [hGr_and_t] at h
        rw [List.all_eq_true]
        exact hAll_sound ih h
      | false =>
        rw [hGr_and_f] at h
        obtain ⟨q, hq, e⟩ := hOne_sound ih h
        rw [List.all_eq_false]
        exact ⟨q, hq, by rw [e]; simp⟩
    · cases yes with
      | true => rw [gnd_and_t] at h ⊢; rw [hGr_and_t]; exact hAll_told ih h
      | false => rw [gnd_and_f] at h ⊢; rw [hGr_and_f]; exact hOne_told ih h
  | disj n qs h2 h4 h ih =>
    refine ⟨?_, ?_, fun g yes h => ?_, fun yes h => ?_⟩
    · rw [gnd_or_t, firstOf_non, holdsIn_or, List.all_map, List.not_any_eq_all_not]
      exact all_congr' fun q hq => (ih q hq).yes
    · rw [gnd_or_f, allOf_non, holdsIn_or, List.any_map]
      exact any_congr' fun q hq => (ih q hq).no
    · rw [holdsIn_or]
      cases yes with
      | true =>
        rw [hGr_or_t] at h
        obtain ⟨q, hq, e⟩ := hOne_sound ih h
        rw [List.any_eq_true]
        exact ⟨q, hq, e⟩
      | false =>
        rw [hGr_or_f] at h
        rw [List.any_eq_false]
        intro q hq
        rw [hAll_sound ih h q hq]; simp
    · cases yes with
      | true => rw [gnd_or_t] at h ⊢; rw [hGr_or_t]; exact hOne_told ih h
      | false => rw [gnd_or_f] at h ⊢; rw [hGr_or_f]; exact hAll_told ih h
  | but n a b ha hb iha ihb =>
    refine ⟨?_, ?_, fun g yes h => ?_, fun yes h => ?_⟩
    · rw [gnd_but_t, holdsIn_but]
      unfold butOf
      rw [iha.yes, ihb.no]
      cases holdsIn held n a <;> cases holdsIn held n b <;> rfl
    · rw [gnd_but_f, holdsIn_but]
      unfold elseOf
      rw [iha.no, ihb.yes]
      cases holdsIn held n a <;> cases holdsIn held n b <;> rfl
    · rw [hGr_but] at h
      rw [holdsIn_but]
      unfold hBut at h
      cases yes with
      | true =>
        rw [if_pos rfl] at h
        simp only [Bool.and_eq_true] at h
        rw [iha.sound _ _ h.2.1, ihb.sound _ _ h.2.2]; rfl
      | false =>
        rw [if_neg Bool.false_ne_true] at h
        split at h
        · rw [iha.sound _ _ h]; rfl
        · rw [ihb.sound _ _ (Bool.and_eq_true_iff.mp h).2]; simp
    · cases yes with
      | true =>
        rw [gnd_but_t] at h ⊢
        rw [hGr_but]
        have e : (isNonD (gnd held n a true) || isNonD (gnd held n b false)) = false := by
          unfold butOf at h
          cases q : (isNonD (gnd held n a true) || isNonD (gnd held n b false)) with
          | true => rw [q, if_pos rfl] at h; cases h
          | false => rfl
        obtain ⟨e1, e2⟩ := Bool.or_eq_false_iff.mp e
        unfold butOf
        rw [e, if_neg Bool.false_ne_true]
        unfold hBut
        rw [if_pos rfl, isGr_of (by rfl)]
        show (true && (hGr held n a (gnd held n a true) true && hGr held n b (gnd held n b false) false)) = true
        rw [iha.told _ e1, ihb.told _ e2]; rfl
      | false =>
        rw [gnd_but_f] at h ⊢
        rw [hGr_but]
        unfold elseOf at h ⊢
        cases e1 : isNonD (gnd held n a false) with
        | false =>
          rw [if_pos rfl]
          unfold hBut
          rw [if_neg Bool.false_ne_true, if_pos (isGr_of (by rfl))]
          exact iha.told _ e1
        | true =>
          rw [e1, if_neg (by simp)] at h
          rw [if_neg (by simp)]
          cases e2 : isNonD (gnd held n b true) with
          | true => rw [e2, if_pos rfl] at h; cases h
          | false =>
            rw [if_neg Bool.false_ne_true]
            unfold hBut
            rw [if_neg Bool.false_ne_true, if_neg (by rw [isGr_ne (by decide)]; simp), isGr_of (by rfl), Bool.true_and]
            exact ihb.told _ e2
end PP
end

section
set_option Elab.async false
set_option linter.all false
set_option maxRecDepth 100000
set_option maxHeartbeats 4000000
/-! PPd: readings at plain data, more. -/
namespace PP
open PySem PySem.Spec PyProof.Rows L2 L3
section
variable {G : Gp} {Q : K3}
theorem q_eq_str {a b : Str} : rEq3 (.str a) (.str b) G Q = Q (.bl (decide (a = b))) G := by
  have e : eqD (.str a) (.str b) = decide (a = b) := eqv_str
  unfold rEq3
  rw [e]
  exact propext ⟨fun h => h.2, fun h => ⟨.inl ⟨rfl, rfl⟩, h⟩⟩
theorem q_ne_str {a b : Str} : rNe3 (.str a) (.str b) G Q = Q (.bl (!decide (a = b))) G := by
  have e : eqD (.str a) (.str b) = decide (a = b) := eqv_str
  unfold rNe3
  rw [e]
  exact propext ⟨fun h => h.2, fun h => ⟨.inl ⟨rfl, rfl⟩, h⟩⟩
theorem q_eq_int {a b : Int} : rEq3 (.int a) (.int b) G Q = Q (.bl (decide (a = b))) G := by
  have e : eqD (.int a) (.int b) = decide (a = b) := eqv_int
  unfold rEq3
  rw [e]
  exact propext ⟨fun h => h.2, fun h => ⟨.inl ⟨rfl, rfl⟩, h⟩⟩
theorem q_ne_int {a b : Int} : rNe3 (.int a) (.int b) G Q = Q (.bl (!decide (a = b))) G := by
  have e : eqD (.int a) (.int b) = decide (a = b) := eqv_int
  unfold rNe3
  rw [e]
  exact propext ⟨fun h => h.2, fun h => ⟨.inl ⟨rfl, rfl⟩, h⟩⟩
theorem q_eq_bl {a b : Bool} : rEq3 (.bl a) (.bl b) G Q = Q (.bl (decide (a = b))) G := by
  have e : eqD (.bl a) (.bl b) = decide (a = b) := eqv_bl
  unfold rEq3
  rw [e]
  exact propext ⟨fun h => h.2, fun h => ⟨.inl ⟨rfl, rfl⟩, h⟩⟩
theorem q_ne_bl {a b : Bool} : rNe3 (.bl a) (.bl b) G Q = Q (.bl (!decide (a = b))) G := by
  have e : eqD (.bl a) (.bl b) = decide (a = b) := eqv_bl
  unfold rNe3
  rw [e]
  exact propext ⟨fun h => h.2, fun h => ⟨.inl ⟨rfl, rfl⟩, h⟩⟩
theorem q_eq_ok {x y : D} (hx : okD x) (hy : okD y) : rEq3 x y G Q = Q (.bl (eqD x y)) G := propext ⟨fun h => h.2, fun h => ⟨.inr ⟨hx, hy⟩, h⟩⟩
theorem q_ne_ok {x y : D} (hx : okD x) (hy : okD y) : rNe3 x y G Q = Q (.bl (!eqD x y)) G := propext ⟨fun h => h.2, fun h => ⟨.inr ⟨hx, hy⟩, h⟩⟩
theorem ok_nil_t : okD (.tup []) := fine_ok (n := 1) rfl (by decide)
theorem ok_nil_l : okD (.lst []) := fine_ok (n := 1) rfl (by decide)
theorem eqD_tnil {xs : List D} : eqD (.tup xs) (.tup []) = xs.isEmpty := by
  show PyData.eqv (.tuple (pys xs)) (.tuple (pys [])) = _
  cases xs <;> simp [pys, PyData.eqv, PyData.eqvAll]
theorem eqD_lnil {xs : List D} : eqD (.lst xs) (.lst []) = xs.isEmpty := by
  show PyData.eqv (.list (pys xs)) (.list (pys [])) = _
  cases xs <;> simp [pys, PyData.eqv, PyData.eqvAll]
theorem eqD_strs {a b : List Str} : eqD (.lst (a.map .str)) (.lst (b.map .str)) = decide (a = b) := by
  show PyData.eqv (.list (pys _)) (.list (pys _)) = _
  simp only [PyData.eqv]
  induction a generalizing b with
  | nil => cases b <;> simp [pys, PyData.eqvAll]
  | cons x a ih =>
    cases b with
    | nil => simp [pys, PyData.eqvAll]
    | cons y b =>
      simp only [List.map_cons, pys, PyData.eqvAll, py]
      rw [ih, eqv_str]
      by_cases h1 : x = y <;> by_cases h2 : a = b <;> simp [h1, h2]
theorem eqD_non {n : Nat} {d : D} (h : fine n d = true) : eqD d .non = isNonD d := by
  cases d with
  | non => rfl
  | ty _ => cases n <;> simp [fine] at h
  | ref _ => cases n <;> simp [fine] at h
  | dic _ => cases n <;> simp [fine] at h
  | ins _ _ => cases n <;> simp [fine] at h
  | scr _ => cases n <;> simp [fine] at h
  | bl b => simp [eqD, py, PyData.eqv, isNonD]
  | int b => simp [eqD, py, PyData.eqv, isNonD]
  | str b => simp [eqD, py, PyData.eqv, isNonD]
  | lst b => simp [eqD, py, PyData.eqv, isNonD]
  | tup b => simp [eqD, py, PyData.eqv, isNonD]
theorem inD_non {n : Nat} {ys : List D} (h : ∀ y ∈ ys, fine n y = true) : inD .non ys = ys.any isNonD := by
  unfold inD
  exact any_congr' fun y hy => eqD_non (h y hy)
theorem inD_str {k : Str} {ws : List Str} : inD (.str k) (ws.map .str) = decide (k ∈ ws) := by
  unfold inD
  induction ws with
  | nil => rfl
  | cons w ws ih =>
    rw [List.map_cons, List.any_cons, ih]
    have e : eqD (.str w) (.str k) = decide (w = k) := eqv_str
    rw [e]
    by_cases h1 : w = k
    · simp [h1]
    · have h2 : ¬ k = w := fun e => h1 e.symm
      simp [h1, h2]
theorem scal_strs {ws : List Str} : (ws.map D.str).all isScal = true := by
  rw [List.all_eq_true]
  intro x hx
  obtain ⟨w, _, rfl⟩ := List.mem_map.mp hx
  rfl
theorem q_inT {k : Str} {ws : List Str} : rIn3 false (.str k) (.tup (ws.map .str)) G Q = Q (.bl (decide (k ∈ ws))) G := by
  have e : rIn3 false (.str k) (.tup (ws.map .str)) G Q = (((isScal (.str k) = true ∧ (ws.map D.str).all isScal = true) ∨ (okD (.str k) ∧ okD (.lst (ws.map .str)) ∧ ∃ zs, D.tup (ws.map .str) = .lst zs)) ∧ Q (.bl (false ^^ inD (.str k) (ws.map .str))) G) := rfl
  rw [e, inD_str, Bool.false_xor]
  exact propext ⟨fun h => h.2, fun h => ⟨.inl ⟨rfl, scal_strs⟩, h⟩⟩
theorem q_sign {c : Nat} {z : Str} : rIn3 false (.str ⟨#[c]⟩) (.str z) G Q = Q (.bl (decide (c ∈ z.cps.toList))) G := by
  have e : rIn3 false (.str ⟨#[c]⟩) (.str z) G Q = Q (.bl (false ^^ decide (c ∈ z.cps.toList))) G := rfl
  rw [e, Bool.false_xor]
def plainB (k : Str) : Bool := decide (k ∈ ([("word" : Str), "phrase", "near"] : List Str))
theorem q_plain {k : Str} : rIn3 false (.str k) (.tup [.str "word", .str "phrase", .str "near"]) G Q = Q (.bl (plainB k)) G := q_inT (ws := ["word", "phrase", "near"])
theorem q_wp {k : Str} : rIn3 false (.str k) (.tup [.str "word", .str "phrase"]) G Q = Q (.bl (decide (k ∈ ([("word" : Str), "phrase"] : List Str)))) G := q_inT (ws := ["word", "phrase"])
theorem q_ix_tup {xs : List D} {i : Nat} {d : D} (h : xs[i]? = some d) : rIx3 (.tup xs) (.int (i : Int)) G Q = Q d G := by
  have e : atD G (.tup xs) (i : Int) = some d := atI_nat h
  simp only [rIx3, e]
theorem q_ix_lst {xs : List D} {i : Nat} {d : D} (h : xs[i]? = some d) : rIx3 (.lst xs) (.int (i : Int)) G Q = Q d G := by
  have e : atD G (.lst xs) (i : Int) = some d := atI_nat h
  simp only [rIx3, e]
theorem q_ix0 {x : D} {xs : List D} : rIx3 (.tup (x :: xs)) (.int 0) G Q = Q x G := q_ix_tup (i := 0) rfl
theorem q_ix1 {x y : D} {xs : List D} : rIx3 (.tup (x :: y :: xs)) (.int 1) G Q = Q y G := q_ix_tup (i := 1) rfl
theorem q_ix2 {x y z : D} {xs : List D} : rIx3 (.tup (x :: y :: z :: xs)) (.int 2) G Q = Q z G := q_ix_tup (i := 2) rfl
theorem q_lx0 {x : D} {xs : List D} : rIx3 (.lst (x :: xs)) (.int 0) G Q = Q x G := q_ix_lst (i := 0) rfl
theorem q_lx1 {x y : D} {xs : List D} : rIx3 (.lst (x :: y :: xs)) (.int 1) G Q = Q y G := q_ix_lst (i := 1) rfl
theorem q_lx2 {x y z : D} {xs : List D} : rIx3 (.lst (x :: y :: z :: xs)) (.int 2) G Q = Q z G := q_ix_lst (i := 2) rfl
theorem cutL_tail {α : Type} (xs : List α) : cutL xs (some 1) none = xs.tail := by
  have e : HT.sIx xs.length 0 (some 1) = min 1 xs.length := HT.sIx_nat xs.length 0 1
  unfold cutL
  rw [e, HT.sIx_none]
  cases xs with
  | nil => rfl
  | cons x xs =>
    have : min 1 (x :: xs).length = 1 := by simp
    rw [this]
    simp
theorem q_tail {xs : List D} : rSl3 (.tup xs) (some 1) none G Q = Q (.tup xs.tail) G := by
  show Q (.tup (cutL xs (some 1) none)) G = _
  rw [cutL_tail]
theorem cutL_mid {α : Type} (xs : List α) (i m : Nat) : cutL xs (some (i : Int)) (some ((i : Int) + (m : Int))) = (xs.drop i).take m := by
  have e1 : HT.sIx xs.length 0 (some (i : Int)) = min i xs.length := HT.sIx_nat ..
  have e2 : HT.sIx xs.length xs.length (some ((i : Int) + (m : Int))) = min (i + m) xs.length := by
    have e : (i : Int) + (m : Int) = ((i + m : Nat) : Int) := by omega
    rw [e]
    exact HT.sIx_nat xs.length xs.length (i + m)
  unfold cutL
  rw [e1, e2]
  by_cases h : i ≤ xs.length
  · rw [Nat.min_eq_left h]
    by_cases h2 : i + m ≤ xs.length
    · rw [Nat.min_eq_left h2, Nat.add_sub_cancel_left]
    · rw [Nat.min_eq_right (by omega)]
      rw [List.take_of_length_le (by simp), List.take_of_length_le (by simp; omega)]
  · rw [Nat.min_eq_right (by omega), Nat.min_eq_right (by omega)]
    simp only [Nat.sub_self, List.take_zero, List.drop_length]
    rw [List.drop_of_length_le (by omega)]; simp
theorem q_isn {x : D} : rIsN3 x .non G Q = Q (.bl (isNonD x)) G := rfl
theorem q_notn {x : D} : rNotN3 x .non G Q = Q (.bl (!isNonD x)) G := rfl
theorem q_all {α : Type} {xs : List α} {f : α → Bool} : rAll3 [.lst (xs.map fun x => .bl (f x))] G Q = Q (.bl (xs.all f)) G := by
  have e : (lstOf G (.lst (xs.map fun x => D.bl (f x)))).bind blsOf = some (xs.map f) := blsOf_map f xs
  simp only [rAll3, e]
  rw [List.all_map]; rfl
theorem q_any {α : Type} {xs : List α} {f : α → Bool} : rAny3 [.lst (xs.map fun x => .bl (f x))] G Q = Q (.bl (xs.any f)) G := by
  have e : (lstOf G (.lst (xs.map fun x => D.bl (f x)))).bind blsOf = some (xs.map f) := blsOf_map f xs
  simp only [rAny3, e]
  rw [List.any_map]; rfl
theorem q_listT {xs : List D} : rList3 [.tup xs] G Q = Q (.lst xs) G := rfl
theorem q_listL {xs : List D} : rList3 [.lst xs] G Q = Q (.lst xs) G := rfl
theorem q_tupL {xs : List D} : rTuple3 [.lst xs] G Q = Q (.tup xs) G := rfl
theorem q_abs {i : Int} : rAbs3 [.int i] G Q = Q (.int (if i < 0 then -i else i)) G := rfl
theorem q_int {b : Bool} : rInt3' [.bl b] G Q = Q (.int (if b then 1 else 0)) G := rfl
theorem q_sum {α : Type} {xs : List α} {f : α → Int} : rSum3 [.lst (xs.map fun x => .int (f x))] G Q = Q (.int (xs.map f).sum) G := by
  have e : (lstOf G (.lst (xs.map fun x => D.int (f x)))).bind intsOf = some (xs.map f) := intsOf_map f xs
  simp only [rSum3, e]
end
def txt (ws : List Str) : Str := Txt.join " " ws
end PP
end

section
set_option Elab.async false
set_option linter.all false
set_option maxRecDepth 100000
set_option maxHeartbeats 1000000
namespace PT
open PySem PySem.Spec PyProof.Rows L2 L3 PP SX LamX
abbrev D0 (Q : K3) : Ends3 := { nx := fun _ G' => Q .non G', rt := Q }
theorem u_lTm1 {r : Str → D → K3 → Gp → Prop} {to te : TE3} {τ : T3} {G : Gp} {Q : K3} : lTm1 r to te τ G Q = (to τ G fun x G1 => match x with
  | .str a => te τ G1 fun y G2 => r a y Q G2
  | _ => False) := id rfl
theorem u_lUp {to : TE3} {τ : T3} {G : Gp} {Q : K3} : lUp to τ G Q = (to τ G fun x G1 => match x with
  | .str a => a.length ≤ 5592405 ∧ Q (.str (Txt.upper a)) G1
  | _ => False) := id rfl
/-! ### texts by their signs -/
abbrev sD (l : List Nat) : D := .str (S l)
abbrev rowsD (rows : List (List Nat)) : D := .lst (rows.map sD)
theorem nl_eq : ("\n" : Str) = S [10] := by decide +kernel
theorem co_eq : (":" : Str) = S [58] := by decide +kernel
theorem ze_eq : ("0" : Str) = ⟨#[48]⟩ := by decide +kernel
theorem em_eq : ("" : Str) = S [] := by decide +kernel
section
variable {G : Gp} {Q : K3}
theorem q_addS {a b : List Nat} : rAdd3 (sD a) (sD b) G Q = (a.length + b.length ≤ sizeLine ∧ Q (sD (a ++ b)) G) := by
  show ((S a).length + (S b).length ≤ sizeLine ∧ Q (.str (S a ++ S b)) G) = _
  rw [S_len, S_len, S_cat]
theorem q_ixS {l : List Nat} {i c : Nat} (h : l[i]? = some c) (hl : l.length ≤ sizeLine) : rIx3 (sD l) (.int (i : Int)) G Q = Q (.str ⟨#[c]⟩) G := by
  have e : atD G (sD l) (i : Int) = some (.str ⟨#[c]⟩) := by
    show (if (S l).length ≤ sizeLine then (atI (S l).cps.toList (i : Int)).map (fun c => D.str ⟨#[c]⟩) else none) = _
    rw [S_len, if_pos hl]
    show (atI l (i : Int)).map _ = _
    rw [atI_nat h]; rfl
  simp only [rIx3, e]
theorem q_lenS {l : List Nat} (hl : l.length ≤ sizeLine) : rLen3 [sD l] G Q = Q (.int (l.length : Nat)) G := by
  show (match lenD G (sD l) with | some n => Q (.int n) G | none => False) = _
  have e : lenD G (sD l) = some l.length := by
    show (if (S l).length ≤ sizeLine then some (S l).length else none) = _
    rw [S_len, if_pos hl]
  rw [e]
theorem q_ord {c : Nat} : rOrd3 [.str ⟨#[c]⟩] G Q = Q (.int (c : Nat)) G := by
  refine propext ⟨fun h => h.2, fun h => ⟨rfl, h⟩⟩
theorem q_strI {n : Nat} (h : n < 1000000) : rStrI3 [.int (n : Int)] G Q = Q (.str (Str.ofString (toString ((n : Nat) : Int)))) G := by
  have hl : ((n : Nat) : Int).natAbs.log2 < 1920 := by
    rw [Int.natAbs_natCast]
    by_cases hn : n = 0
    · subst hn; decide
    · have := (Nat.log2_lt (k := 20) hn).mpr (by omega)
      omega
  exact propext ⟨fun h => h.2, fun h => ⟨hl, h⟩⟩
end
theorem q_addI {i j : Int} {G : Gp} {Q : K3} : rAddI3 (.int i) (.int j) G Q = Q (.int (i + j)) G := rfl
theorem rows_items {rows : List (List Nat)} {G : Gp} : (itemsOf G (rowsD rows)).bind strsOf = some (rows.map S) := by
  show strsOf (rows.map fun r => D.str (S r)) = _
  exact strsOf_map S rows
/-! ### the program's words -/
/-! ### the purse -/
def Pu (p : Addr) (c : Nat) (G : Gp) : Prop := ∃ a b k : Int, G p = some (.lst [.int a, .int b, .int k]) ∧ 0 ≤ a ∧ 0 ≤ b ∧ b < 2147483647 ∧ 0 ≤ k ∧ k ≤ (c : Int)
def Sb (p : Addr) (G G' : Gp) : Prop := ∀ q, q ≠ p → G' q = G q
theorem Sb.refl (p : Addr) (G : Gp) : Sb p G G := fun _ _ => rfl
theorem Sb.trans {p : Addr} {G G' G'' : Gp} (a : Sb p G G') (b : Sb p G' G'') : Sb p G G'' := fun q h => (b q h).trans (a q h)
theorem Sb.gup {p : Addr} {G : Gp} {o : GO} : Sb p G (gup G p o) := fun q h => gup_ne h
theorem Pu.up {p : Addr} {c c' : Nat} {G : Gp} (h : Pu p c G) (hc : c ≤ c') : Pu p c' G := by
  obtain ⟨a, b, k, h1, h2, h3, h4, h5, h6⟩ := h
  exact ⟨a, b, k, h1, h2, h3, h4, h5, by omega⟩
theorem q_rx {p : Addr} {xs : List D} {i : Nat} {d : D} {G : Gp} {Q : K3} (hp : G p = some (.lst xs)) (h : xs[i]? = some d) : rIx3 (.ref p) (.int (i : Int)) G Q = Q d G := by
  have e : atD G (.ref p) (i : Int) = some d := by
    show (itemsOf G (.ref p)).bind (fun ds => atI ds (i : Int)) = some d
    have e1 : itemsOf G (.ref p) = some xs := by
      show (match G p with | some (.lst ds) => some ds | _ => none) = some xs
      rw [hp]
    rw [e1]; exact atI_nat h
  simp only [rIx3, e]
theorem q_r0 {p : Addr} {x y z : D} {G : Gp} {Q : K3} (hp : G p = some (.lst [x, y, z])) : rIx3 (.ref p) (.int 0) G Q = Q x G := q_rx (i := 0) hp rfl
theorem q_r1 {p : Addr} {x y z : D} {G : Gp} {Q : K3} (hp : G p = some (.lst [x, y, z])) : rIx3 (.ref p) (.int 1) G Q = Q y G := q_rx (i := 1) hp rfl
theorem q_r2 {p : Addr} {x y z : D} {G : Gp} {Q : K3} (hp : G p = some (.lst [x, y, z])) : rIx3 (.ref p) (.int 2) G Q = Q z G := q_rx (i := 2) hp rfl
def sp_take : Sp3 := fun ds G Q => ∃ p m c, ds = [.ref p, .int ((m : Nat) : Int)] ∧ 1 ≤ m ∧ m < 1048576 ∧ c < 1048576 ∧ Pu p c G ∧ ∀ (r : Nat) G', r < m → Pu p (c + 1) G' → Sb p G G' → Q (.int (r : Int)) G'
theorem pow_nn {x : Int} (n : Nat) (h : 0 ≤ x) : 0 ≤ x ^ n := Int.pow_nonneg h
/-- the script, a frozen list or one by value -/
def IsScr (d : D) (ns : List Int) : Prop := d = .scr ns ∨ d = .lst (ns.map .int)
theorem q_len_is {d : D} {ns : List Int} (h : IsScr d ns) {G : Gp} {Q : K3} : rLen3 [d] G Q = Q (.int ns.length) G := by
  rcases h with rfl | rfl
  · rfl
  · rw [q_len_lst, List.length_map]
theorem q_ix_is {d : D} {ns : List Int} (h : IsScr d ns) {i : Nat} (hi : i < ns.length) {G : Gp} {Q : K3} : rIx3 d (.int (i : Int)) G Q = Q (.int ns[i]) G := by
  rcases h with rfl | rfl
  · have ea : atD G (.scr ns) (i : Int) = some (.int ns[i]) := by
      show (atI ns (i : Int)).map D.int = _
      rw [atI_nat (v := ns[i]) (by simp [hi])]; rfl
    simp only [rIx3, ea]
  · exact q_ix_lst (d := .int ns[i]) (by rw [List.getElem?_map, List.getElem?_eq_getElem hi]; rfl)
def sp_purse : Sp3 := fun ds G Q => ∃ sd ns i, IsScr sd ns ∧ ds = [sd, .int ((i : Nat) : Int)] ∧ ∀ p G', G p = none → Pu p 0 G' → Sb p G G' → Q (.ref p) G'
theorem pu_gup {p L : Addr} {c : Nat} {G : Gp} {o : GO} (h : Pu p c G) (hL : L ≠ p) : Pu p c (gup G L o) := by
  obtain ⟨a, b, k, h1, r⟩ := h
  exact ⟨a, b, k, by rw [gup_ne (Ne.symm hL)]; exact h1, r⟩
theorem pu_gdel {p L : Addr} {c : Nat} {G : Gp} (h : Pu p c G) (hL : L ≠ p) : Pu p c (gdel G L) := by
  obtain ⟨a, b, k, h1, r⟩ := h
  exact ⟨a, b, k, by rw [gdel_ne (Ne.symm hL)]; exact h1, r⟩
theorem pu_ne {p L : Addr} {c : Nat} {G : Gp} (h : Pu p c G) (hL : G L = none) : L ≠ p := by
  obtain ⟨a, b, k, h1, _⟩ := h
  exact fun e => by rw [e, h1] at hL; cases hL
/-- what a loop that takes from the purse leaves behind -/
structure Lp (p L : Addr) (G1 : Gp) (Y : D → Prop) (c : Nat) (acc : List D) (G' : Gp) : Prop where
  pu : Pu p c G'
  li : G' L = some (.lst acc)
  sb : ∀ q, q ≠ p → q ≠ L → G' q = G1 q
  ok : ∀ y ∈ acc, Y y
theorem lLc_pu {te : TE3} {i : Nat} {vs : List Nat} {τ : T3} {G : Gp} {Q : K3} {li : TI3} {p : Addr} (Y : D → Prop) (Z : List D → Prop) (c st M : Nat)
    (hli : ∀ R : List D → Gp → Prop, (∀ ds G1, Z ds → ds.length ≤ M → Pu p c G1 → Sb p G G1 → R ds G1) → li τ G R) (hM : M ≤ sizeLine)
    (he : ∀ (ds : List D) (j : Nat) d (G' : Gp), Z ds → ds[j]? = some d → Pu p (c + j * st) G' → (∀ q, q ≠ p → ∀ o, G q = some o → G' q = some o) → ∀ Q' : K3, (∀ y G'', Y y → Pu p (c + j * st + st) G'' → Sb p G' G'' → Q' y G'') → te ((wipe3 τ vs).set i (some d)) G' Q')
    (q : ∀ ds ys G', Z ds → ys.length = ds.length → ds.length ≤ M → (∀ y ∈ ys, Y y) → Pu p (c + ds.length * st) G' → Sb p G G' → Q (.lst ys) G') : lLc li (gName3 i) tYes3 te vs τ G Q := by
  refine hli _ fun ds G1 hZ hlen hP hS L hL => ?_
  have hLp := pu_ne hP hL
  refine ⟨fun j acc G' => acc.length = j ∧ Lp p L G1 Y (c + j * st) acc G', ⟨rfl, by rw [Nat.zero_mul]; exact pu_gup hP hLp, gup_same, fun q h1 h2 => gup_ne h2, fun y h => nomatch h⟩, ?_, ?_⟩
  · rintro j d acc G' hd ⟨hj, I⟩
    simp only [gName3, tYes3, if_true]
    refine he ds j d G' hZ hd I.pu (fun q hq o ho => ?_) _ fun y G'' hy hP' hS' => ⟨?_, ?_, ?_⟩
    · have hG1 : G1 q = some o := by rw [hS q hq]; exact ho
      rw [I.sb q hq (fun e => by rw [e, hL] at hG1; cases hG1)]; exact hG1
    · rw [hS' L hLp]; exact I.li
    · have := (List.getElem?_eq_some_iff.mp hd).1
      omega
    · refine ⟨by rw [List.length_append, hj]; rfl, ?_, gup_same, fun q h1 h2 => ?_, fun z hz => ?_⟩
      · rw [Nat.add_one_mul, ← Nat.add_assoc]; exact pu_gup hP' hLp
      · rw [gup_ne h2, hS' q h1, I.sb q h1 h2]
      · rcases List.mem_append.mp hz with hz | hz
        · exact I.ok z hz
        · have : z = y := by simpa using hz
          rw [this]; exact hy
  · rintro acc G' ⟨hj, I⟩
    refine ⟨I.li, q ds acc _ hZ hj hlen I.ok (pu_gdel I.pu hLp) fun x hx => ?_⟩
    by_cases e : x = L
    · subst e
      rw [gdel_same, ← hS x hx, hL]
    · rw [gdel_ne e, I.sb x hx e, hS x hx]
theorem lLcG_pu {te : TE3} {i : Nat} {vs : List Nat} {τ : T3} {G : Gp} {Q : K3} {li : TI3} {p : Addr} (Y : D → Prop) (Z : List D → Prop) (c st M : Nat)
    (hli : ∀ R : List D → Gp → Prop, (∀ ds G1, Z ds → ds.length ≤ M → Pu p c G1 → Sb p G G1 → R ds G1) → li τ G R) (hM : M ≤ sizeLine)
    (he : ∀ (ds : List D) (j : Nat) d (G' : Gp), Z ds → ds[j]? = some d → Pu p (c + j * st) G' → (∀ q, q ≠ p → ∀ o, G q = some o → G' q = some o) → ∀ Q' : K3, (∀ y G'', Y y → Pu p (c + j * st + st) G'' → Sb p G' G'' → Q' y G'') → te ((wipe3 τ vs).set i (some d)) G' Q')
    (q : ∀ ds ys G' L, Z ds → ys.length = ds.length → ds.length ≤ M → (∀ y ∈ ys, Y y) → Pu p (c + ds.length * st) G' → G L = none → L ≠ p → G' L = some (.lst ys) → (∀ x, x ≠ p → x ≠ L → G' x = G x) → Q (.ref L) G') : lLcG li (gName3 i) tYes3 te vs τ G Q := by
  refine hli _ fun ds G1 hZ hlen hP hS L hL => ?_
  have hLp := pu_ne hP hL
  refine ⟨fun j acc G' => acc.length = j ∧ Lp p L G1 Y (c + j * st) acc G', ⟨rfl, by rw [Nat.zero_mul]; exact pu_gup hP hLp, gup_same, fun q h1 h2 => gup_ne h2, fun y h => nomatch h⟩, ?_, ?_⟩
  · rintro j d acc G' hd ⟨hj, I⟩
    simp only [gName3, tYes3, if_true]
    refine he ds j d G' hZ hd I.pu (fun q hq o ho => ?_) _ fun y G'' hy hP' hS' => ⟨?_, ?_, ?_⟩
    · have hG1 : G1 q = some o := by rw [hS q hq]; exact ho
      rw [I.sb q hq (fun e => by rw [e, hL] at hG1; cases hG1)]; exact hG1
    · rw [hS' L hLp]; exact I.li
    · have := (List.getElem?_eq_some_iff.mp hd).1
      omega
    · refine ⟨by rw [List.length_append, hj]; rfl, ?_, gup_same, fun q h1 h2 => ?_, fun z hz => ?_⟩
      · rw [Nat.add_one_mul, ← Nat.add_assoc]; exact pu_gup hP' hLp
      · rw [gup_ne h2, hS' q h1, I.sb q h1 h2]
      · rcases List.mem_append.mp hz with hz | hz
        · exact I.ok z hz
        · have : z = y := by simpa using hz
          rw [this]; exact hy
  · rintro acc G' ⟨hj, I⟩
    refine ⟨I.li, q ds acc _ L hZ hj hlen I.ok I.pu (by rw [← hS L hLp]; exact hL) hLp I.li fun x hx hxL => by rw [I.sb x hx hxL, hS x hx]⟩
open SX TL in
theorem join0 (ys : List (List Nat)) : Txt.join Str.empty (ys.map S) = S (joinL [] ys) := join_S [] ys
open SX TL in
theorem joinL_nil : ∀ ys : List (List Nat), joinL [] ys = ys.flatten
  | [] => rfl
  | [p] => by simp [joinL]
  | p :: q :: r => by
    show p ++ ([] ++ joinL [] (q :: r)) = _
    rw [joinL_nil (q :: r)]; simp
/-! ### slices of texts -/
theorem q_slHi {t : List Nat} {k : Nat} {G : Gp} {Q : K3} (hl : t.length ≤ sizeLine) : rSl3 (sD t) none (some (k : Int)) G Q = Q (sD (t.take k)) G := by
  have e : cutS (S t) none (some (k : Int)) = S (t.take k) := by
    unfold cutS
    rw [HT.sIx_none, HT.sIx_nat, S_len]
    show S ((t.drop 0).take (min k t.length - 0)) = _
    rw [List.drop_zero, Nat.sub_zero]
    congr 1
    rcases Nat.le_total k t.length with h | h
    · rw [Nat.min_eq_left h]
    · rw [Nat.min_eq_right h, List.take_length, List.take_of_length_le h]
  show ((S t).length ≤ sizeLine ∧ Q (.str (cutS (S t) none (some (k : Int)))) G) = _
  rw [e, S_len]
  exact propext ⟨fun h => h.2, fun h => ⟨hl, h⟩⟩
theorem q_slLo {t : List Nat} {k : Nat} {G : Gp} {Q : K3} (hl : t.length ≤ sizeLine) : rSl3 (sD t) (some (k : Int)) none G Q = Q (sD (t.drop k)) G := by
  have e : cutS (S t) (some (k : Int)) none = S (t.drop k) := by
    unfold cutS
    rw [HT.sIx_none, HT.sIx_nat, S_len]
    show S ((t.drop (min k t.length)).take (t.length - min k t.length)) = _
    congr 1
    rcases Nat.le_total k t.length with h | h
    · rw [Nat.min_eq_left h]
      rw [List.take_of_length_le (by rw [List.length_drop]; omega)]
    · rw [Nat.min_eq_right h, Nat.sub_self, List.take_zero, List.drop_of_length_le h]
  show ((S t).length ≤ sizeLine ∧ Q (.str (cutS (S t) (some (k : Int)) none)) G) = _
  rw [e, S_len]
  exact propext ⟨fun h => h.2, fun h => ⟨hl, h⟩⟩
def Asc (t : List Nat) : Prop := ∀ c ∈ t, c < 128
theorem Asc.take {t : List Nat} (h : Asc t) (k : Nat) : Asc (t.take k) := fun c hc => h c (List.mem_of_mem_take hc)
theorem Asc.drop {t : List Nat} (h : Asc t) (k : Nat) : Asc (t.drop k) := fun c hc => h c (List.mem_of_mem_drop hc)
theorem Asc.app {t u : List Nat} (h : Asc t) (h2 : Asc u) : Asc (t ++ u) := fun c hc => (List.mem_append.mp hc).elim (h c) (h2 c)
theorem asc_of {t : List Nat} (h : t.all (· < 128) = true) : Asc t := fun c hc => of_decide_eq_true (List.all_eq_true.mp h c hc)
theorem Asc.all {t : List Nat} (h : Asc t) : t.all (· < 128) = true := List.all_eq_true.mpr fun c hc => decide_eq_true (h c hc)
theorem asc_up {t : List Nat} (h : Asc t) : Asc (t.map PyProof.Rows.up1) := fun c hc => by
  obtain ⟨x, hx, rfl⟩ := List.mem_map.mp hc
  have := h x hx
  unfold PyProof.Rows.up1
  split <;> omega
def signsL : List Nat := [32, 33, 35, 36, 38, 39, 40, 41, 42, 43, 44, 45, 46, 47, 48, 49, 50, 51, 52, 53, 54, 55, 56, 57, 58, 59, 60, 61, 62, 63, 64, 65, 66, 67, 88, 89, 90, 91, 93, 94, 95, 97, 98, 99, 100, 101, 102, 120, 121, 122, 123, 124, 125, 126]
theorem signs_eq : (" !#$&'()*+,-./0123456789:;<=>?@ABCXYZ[]^_abcdefxyz{|}~" : Str) = S signsL := by decide +kernel
theorem signs_asc : Asc signsL := asc_of (by decide)
theorem signs_10 : 10 ∉ signsL := by decide
def bentL : List Nat := [48, 49, 50, 51, 52, 53, 54, 55, 56, 57, 97, 98, 99, 100, 101, 102, 65, 66, 70, 58, 32, 10, 126, 120]
theorem bent_eq : ("0123456789abcdefABF: \n~x" : Str) = S bentL := by decide +kernel
theorem bent_asc : Asc bentL := asc_of (by decide)
/-! ### a row -/
theorem wit_signs {A : List Nat} : ∀ {ys : List D}, (∀ y ∈ ys, ∃ x, x ∈ A ∧ y = sD [x]) → ∃ l : List Nat, ys = (l.map fun x => [x]).map sD ∧ ∀ x ∈ l, x ∈ A
  | [], _ => ⟨[], rfl, fun x h => nomatch h⟩
  | y :: ys, h => by
    obtain ⟨x, hx, rfl⟩ := h y List.mem_cons_self
    obtain ⟨l, rfl, hl⟩ := wit_signs (ys := ys) fun z hz => h z (List.mem_cons_of_mem _ hz)
    exact ⟨x :: l, rfl, fun z hz => by
      rcases List.mem_cons.mp hz with rfl | hz
      · exact hx
      · exact hl z hz⟩
theorem flat1 : ∀ l : List Nat, (l.map fun x => [x]).flatten = l
  | [] => rfl
  | x :: l => by
    show [x] ++ (l.map fun x => [x]).flatten = _
    rw [flat1 l]; rfl
def sp_row : Sp3 := fun ds G Q => ∃ p m c, ds = [.ref p, .int ((m : Nat) : Int)] ∧ m ≤ 100 ∧ c < 1000000 ∧ Pu p c G ∧ ∀ (r : List Nat) G', r.length ≤ m → (∀ x ∈ r, x ∈ signsL) → Pu p (c + 1 + m) G' → Sb p G G' → Q (sD r) G'
theorem pu_tab {T : List (Addr × Str)} {p : Addr} {c : Nat} {G G' : Gp} (h : TabsG T G) (hP : Pu p c G) (hS : Sb p G G') : TabsG T G' := fun x hx => by
  obtain ⟨ps, e1, e2, e3⟩ := h x hx
  obtain ⟨a, b, k, h1, _⟩ := hP
  have ne : ∀ {b : Addr} {r : HO}, G b = some (.raw r) → b ≠ p := fun z w => by rw [w, h1] at z; cases z
  refine ⟨ps, by rw [hS _ (ne e1)]; exact e1, e2, fun pos cv hc => ?_⟩
  obtain ⟨d, e4, e5⟩ := e3 pos cv hc
  exact ⟨d, e4, by rw [hS _ (ne e5)]; exact e5⟩
theorem new_tab {T : List (Addr × Str)} {p : Addr} {G G' : Gp} (h : TabsG T G) (hp : G p = none) (hS : Sb p G G') : TabsG T G' := fun x hx => by
  obtain ⟨ps, e1, e2, e3⟩ := h x hx
  have ne : ∀ {b : Addr} {u : GO}, G b = some u → b ≠ p := fun z w => by rw [w, hp] at z; cases z
  refine ⟨ps, by rw [hS _ (ne e1)]; exact e1, e2, fun pos cv hc => ?_⟩
  obtain ⟨d, e4, e5⟩ := e3 pos cv hc
  exact ⟨d, e4, by rw [hS _ (ne e5)]; exact e5⟩
theorem pu_ext {p : Addr} {c : Nat} {G G' : Gp} (hP : Pu p c G) (e : ExtG G G') : Pu p c G' := by
  obtain ⟨a, b, k, h1, r⟩ := hP
  exact ⟨a, b, k, e p _ h1 (fun ps z => by cases z), r⟩
theorem lay_str {t : List Nat} (h : Asc t) : PyData.strOk (S t) = true := by
  unfold PyData.strOk
  rw [← Array.all_toList]
  exact List.all_eq_true.mpr fun c hc => decide_eq_true (Nat.lt_trans (h c hc) (by decide))
def Good (d : D) : Prop := (py d).canLay0 = true ∧ (py d).depth ≤ 64
theorem q_ne_good {d : D} {G : Gp} {Q : K3} (h : Good d) : rNe3 d d G Q = Q (.bl false) G := by
  have ok : okD d := by
    show (_ && decide _) = true
    rw [h.1, decide_eq_true h.2]; rfl
  have e : eqD d d = true := SeqAt.eqv_refl _ h.1
  rw [q_ne_ok ok ok, e]; rfl
theorem good_lst {n : Nat} {xs : List D} (h : ∀ x ∈ xs, (py x).canLay0 = true ∧ (py x).depth ≤ n) : (py (.lst xs)).canLay0 = true ∧ (py (.lst xs)).depth ≤ n + 1 := by
  have h3 : ∀ x ∈ pys xs, x.canLay0 = true ∧ x.depth ≤ n := fun y hy => by
    rw [pys_map] at hy
    obtain ⟨x, hx, rfl⟩ := List.mem_map.mp hy
    exact h x hx
  exact ⟨by simp only [py, PyData.canLay0]; exact lay_all fun x hx => (h3 x hx).1, by simp only [py, PyData.depth]; exact Nat.succ_le_succ (depth_all fun x hx => (h3 x hx).2)⟩
theorem good_str {t : List Nat} (h : Asc t) (n : Nat) : (py (sD t)).canLay0 = true ∧ (py (sD t)).depth ≤ n := by
  simp [py, PyData.canLay0, PyData.depth, lay_str h]
theorem good_rows {rows : List (List Nat)} (h : ∀ r ∈ rows, Asc r) (n : Nat) : (py (rowsD rows)).canLay0 = true ∧ (py (rowsD rows)).depth ≤ n + 1 := good_lst fun x hx => by
  obtain ⟨r, hr, rfl⟩ := List.mem_map.mp hx
  exact good_str (h r hr) n
theorem ext_fresh {G G1 : Gp} {dd : Addr} {o : GO} (e : ExtG G G1) (h : G1 dd = none) : ExtG G (gup G1 dd o) := fun b u hb hn => by
  have := e b u hb hn
  rw [gup_ne]
  · exact this
  · intro z
    rw [z, h] at this
    cases this
theorem tabs_fresh {T : List (Addr × Str)} {G1 : Gp} {dd : Addr} {o : GO} (t : TabsG T G1) (h : G1 dd = none) : TabsG T (gup G1 dd o) := fun p hp => by
  obtain ⟨ps, e1, e2, e3⟩ := t p hp
  have ne : ∀ {b : Addr} {u : GO}, G1 b = some u → b ≠ dd := fun z w => by rw [w, h] at z; cases z
  refine ⟨ps, by rw [gup_ne (ne e1)]; exact e1, e2, fun pos cv hc => ?_⟩
  obtain ⟨c, e4, e5⟩ := e3 pos cv hc
  exact ⟨c, e4, by rw [gup_ne (ne e5)]; exact e5⟩
end PT
end

section
set_option Elab.async false
set_option linter.all false
set_option maxRecDepth 100000
set_option maxHeartbeats 1000000
namespace K69
open PySem PySem.Spec PyProof.Rows L2 L3 PP SX LamX PT
theorem p_take (ds : List D) (G : Gp) (Q : K3) (h : sp_take ds G Q) : t__law_take (D0 Q) (start3 N__law_take ds) G := by
  obtain ⟨p, m, c, rfl, hm1, hm2, hc, ⟨a, b, k, hp, ha, hb, hb2, hk, hkc⟩, q⟩ := h
  simp only [t__law_take, N__law_take, u_lListRg, u_sRet, u_sRetN, ss_if, ss_asg, ss_drop, ss_ret, ss_retN, ss_next, ss_never, ss_break, ss_cont, ss_seq, ss_par, ss_aug, ss_gh, ss_fld, u_sIf, u_sNever, u_sNext, u_sDrop, u_sAsg, u_sPar, u_sAug, u_sGh, u_sBreak, u_sCont, u_lOp, u_lC, u_lVar, u_lTest, u_lNil, u_lCons, u_lAnd, u_lOr, u_lNot, u_lAndV, u_lOrV, u_lNotV, u_lIf, u_lChain, u_lTup, u_lLst, u_lLstG, u_lCB, u_lCall, u_lIsi, u_lIsi2, u_lSl, u_lNoPart, u_lPart, u_lNeg, u_lJoin, u_lSplit, u_lWords, u_gName3, u_gNil3, u_gCons3, u_gTup3, u_gStar3, u_gSub3, u_iLst3, u_iTup3, u_iStr3, u_iRg1, u_iRg2, u_iEnum3, u_iZip3, u_iZipT3, u_iZipS3, u_tYes3, u_lFld, u_lMeth, u_lMake, u_lFrz, u_lLm, u_lDNew, u_lDGet2, u_lDSetd, u_lCallA, u_sFld3, start3, List.map, List.append, List.length, List.replicate, List.set, List.cons_append, List.nil_append, List.getElem?_cons_zero, List.getElem?_cons_succ]
  rw [q_r0 hp, q_gt]
  try dsimp only
  by_cases e : 0 < a
  · rw [decide_eq_true e, if_pos rfl, q_r0 hp, q_mod]
    refine ⟨by omega, ?_⟩
    try dsimp only
    rw [q_r0 hp, q_div]
    refine ⟨⟨by omega, by omega⟩, ?_⟩
    simp only [hp]
    refine ⟨0, rfl, ?_⟩
    have h1 : 0 ≤ a % (m : Int) := Int.emod_nonneg _ (by omega)
    have h2 : a % (m : Int) < m := Int.emod_lt_of_pos _ (by omega)
    have e3 : a % (m : Int) = ((a % (m : Int)).toNat : Int) := (Int.toNat_of_nonneg h1).symm
    rw [e3]
    refine q _ _ (by omega) ⟨a / m, b, k, gup_same, Int.ediv_nonneg ha (by omega), hb, hb2, hk, by omega⟩ Sb.gup
  · rw [decide_eq_false e, if_neg Bool.false_ne_true, q_r2 hp, q_add]
    try dsimp only
    simp only [hp]
    refine ⟨2, rfl, ?_⟩
    have hp2 : gup G p (.lst ([D.int a, D.int b, D.int k].set 2 (.int (k + 1)))) p = some (.lst [.int a, .int b, .int (k + 1)]) := gup_same
    rw [q_r2 hp2]
    try dsimp only
    rw [q_r1 hp2, q_mul]
    have ht0 : 0 ≤ k + 1 := by omega
    have ht1 : k + 1 ≤ 1048576 := by omega
    have s1 : 48271 * (k + 1) ≤ 48271 * 1048576 := by omega
    have s2 : 48271 * (k + 1) * (k + 1) ≤ 48271 * 1048576 * 1048576 := Int.mul_le_mul s1 ht1 ht0 (by omega)
    have s3 : 0 ≤ 48271 * (k + 1) * (k + 1) := Int.mul_nonneg (by omega) ht0
    refine ⟨.inl ⟨by decide, by decide⟩, ?_⟩
    try dsimp only
    rw [q_mul]
    refine ⟨.inl ⟨by omega, by omega⟩, ?_⟩
    try dsimp only
    rw [q_add]
    try dsimp only
    rw [q_add]
    try dsimp only
    rw [q_pow]
    refine ⟨⟨by decide, by decide, by omega⟩, ?_⟩
    try dsimp only
    rw [q_mod]
    refine ⟨by decide, ?_⟩
    try dsimp only
    generalize hone : (b + 48271 * (k + 1) * (k + 1) + 1) ^ Int.toNat 5 % 2147483647 = one
    have o1 : 0 ≤ one := by rw [← hone]; exact Int.emod_nonneg _ (by decide)
    have o2 : one < 2147483647 := by rw [← hone]; exact Int.emod_lt_of_pos _ (by decide)
    rw [q_mul]
    refine ⟨.inl ⟨by decide, by decide⟩, ?_⟩
    try dsimp only
    rw [q_add]
    try dsimp only
    rw [q_mul]
    refine ⟨.inl ⟨by omega, by omega⟩, ?_⟩
    try dsimp only
    have r1 : one * (2 * (k + 1) + 30011) ≤ 2147483647 * 2200000 := Int.mul_le_mul (by omega) (by omega) (by omega) (by omega)
    have r2 : 0 ≤ one * (2 * (k + 1) + 30011) := Int.mul_nonneg o1 (by omega)
    rw [q_add]
    try dsimp only
    rw [q_pow]
    refine ⟨⟨by decide, by decide, by omega⟩, ?_⟩
    try dsimp only
    rw [q_mod]
    refine ⟨by decide, ?_⟩
    try dsimp only
    generalize hoth : (one * (2 * (k + 1) + 30011) + (k + 1)) ^ Int.toNat 3 % 998244353 = oth
    have p1 : 0 ≤ oth := by rw [← hoth]; exact Int.emod_nonneg _ (by decide)
    rw [q_mul]
    refine ⟨.inl ⟨by omega, by omega⟩, ?_⟩
    try dsimp only
    rw [q_add]
    try dsimp only
    rw [q_div]
    refine ⟨⟨by decide, by decide⟩, ?_⟩
    try dsimp only
    rw [q_mod]
    refine ⟨by omega, ?_⟩
    have h1 : 0 ≤ (one * 998244353 + oth) / 1009 % (m : Int) := Int.emod_nonneg _ (by omega)
    have h2 : (one * 998244353 + oth) / 1009 % (m : Int) < m := Int.emod_lt_of_pos _ (by omega)
    have e3 : (one * 998244353 + oth) / 1009 % (m : Int) = (((one * 998244353 + oth) / 1009 % (m : Int)).toNat : Int) := (Int.toNat_of_nonneg h1).symm
    show Q (.int ((one * 998244353 + oth) / 1009 % (m : Int))) _
    rw [e3]
    exact q _ _ (by omega) ⟨a, b, k + 1, gup_same, ha, hb, hb2, by omega, by omega⟩ Sb.gup


theorem p_purse (ds : List D) (G : Gp) (Q : K3) (h : sp_purse ds G Q) : t__law_purse (D0 Q) (start3 N__law_purse ds) G := by
  obtain ⟨sd, ns, i, hs, rfl, q⟩ := h
  have fin : ∀ cell : Int, rAbs3 [.int cell] G (fun x G1 => rPow3 (.int 10) (.int 18) G1 fun y G2 => rGe3 x y G2 fun z G3 => rInt3' [z] G3 fun u G4 => rMul3 x u G4 fun v G5 =>
      rMod3 (.int cell) (.int 2147483647) G5 fun a G6 => rMul3 (.int 7919) (.int (i : Int)) G6 fun b G7 => rAdd3 a b G7 fun c G8 => rAdd3 c (.int 17) G8 fun d G9 => rMod3 d (.int 2147483647) G9 fun e G10 =>
        0 + 1 + 1 + 1 ≤ sizeLine ∧ ∀ p, G10 p = none → Q (.ref p) (gup G10 p (.lst [v, e, .int 0]))) := by
    intro cell
    rw [q_abs]
    try dsimp only
    rw [q_pow]
    refine ⟨⟨by decide, by decide, by decide⟩, ?_⟩
    try dsimp only
    rw [q_ge]
    try dsimp only
    rw [q_int]
    try dsimp only
    rw [q_mul]
    generalize hf : (if cell < 0 then -cell else cell) = far
    have f0 : 0 ≤ far := by rw [← hf]; split <;> omega
    generalize hu : (if decide ((10 : Int) ^ Int.toNat 18 ≤ far) = true then (1 : Int) else 0) = u
    have u0 : 0 ≤ u ∧ u ≤ 1 := by rw [← hu]; split <;> decide
    refine ⟨.inr ⟨by omega, by omega⟩, ?_⟩
    try dsimp only
    rw [q_mod]
    refine ⟨by decide, ?_⟩
    try dsimp only
    rw [q_mul]
    refine ⟨.inl ⟨by decide, by decide⟩, ?_⟩
    try dsimp only
    rw [q_add]
    try dsimp only
    rw [q_add]
    try dsimp only
    rw [q_mod]
    refine ⟨by decide, by decide, fun p hp => ?_⟩
    exact q p _ hp ⟨_, _, _, gup_same, Int.mul_nonneg f0 u0.1, Int.emod_nonneg _ (by decide), Int.emod_lt_of_pos _ (by decide), Int.le_refl _, Int.le_refl _⟩ Sb.gup
  simp only [t__law_purse, N__law_purse, u_lListRg, u_sRet, u_sRetN, ss_if, ss_asg, ss_drop, ss_ret, ss_retN, ss_next, ss_never, ss_break, ss_cont, ss_seq, ss_par, ss_aug, ss_gh, ss_fld, u_sIf, u_sNever, u_sNext, u_sDrop, u_sAsg, u_sPar, u_sAug, u_sGh, u_sBreak, u_sCont, u_lOp, u_lC, u_lVar, u_lTest, u_lNil, u_lCons, u_lAnd, u_lOr, u_lNot, u_lAndV, u_lOrV, u_lNotV, u_lIf, u_lChain, u_lTup, u_lLst, u_lLstG, u_lCB, u_lCall, u_lIsi, u_lIsi2, u_lSl, u_lNoPart, u_lPart, u_lNeg, u_lJoin, u_lSplit, u_lWords, u_gName3, u_gNil3, u_gCons3, u_gTup3, u_gStar3, u_gSub3, u_iLst3, u_iTup3, u_iStr3, u_iRg1, u_iRg2, u_iEnum3, u_iZip3, u_iZipT3, u_iZipS3, u_tYes3, u_lFld, u_lMeth, u_lMake, u_lFrz, u_lLm, u_lDNew, u_lDGet2, u_lDSetd, u_lCallA, u_sFld3, start3, List.map, List.append, List.length, List.replicate, List.set, List.cons_append, List.nil_append, List.getElem?_cons_zero, List.getElem?_cons_succ]
  rw [q_len_is hs, q_lt]
  try dsimp only
  by_cases e : (i : Int) < (ns.length : Int)
  · rw [decide_eq_true e, if_pos rfl]
    have hi : i < ns.length := by omega
    rw [q_ix_is hs hi]
    exact fin _
  · rw [decide_eq_false e, if_neg Bool.false_ne_true]
    exact fin 0
theorem p_law_row (ds : List D) (G : Gp) (Q : K3) (h : sp_row ds G Q) : t__law_row sp_take (D0 Q) (start3 N__law_row ds) G := by
  obtain ⟨p, m, c, rfl, hm, hc, hP, q⟩ := h
  have hz : sizeLine = 2 ^ 24 := rfl
  have hsl : signsL.length = 54 := rfl
  simp only [t__law_row, N__law_row, u_lListRg, u_sRet, u_sRetN, ss_if, ss_asg, ss_drop, ss_ret, ss_retN, ss_next, ss_never, ss_break, ss_cont, ss_seq, ss_par, ss_aug, ss_gh, ss_fld, u_sIf, u_sNever, u_sNext, u_sDrop, u_sAsg, u_sPar, u_sAug, u_sGh, u_sBreak, u_sCont, u_lOp, u_lC, u_lVar, u_lTest, u_lNil, u_lCons, u_lAnd, u_lOr, u_lNot, u_lAndV, u_lOrV, u_lNotV, u_lIf, u_lChain, u_lTup, u_lLst, u_lLstG, u_lCB, u_lCall, u_lIsi, u_lIsi2, u_lSl, u_lNoPart, u_lPart, u_lNeg, u_lJoin, u_lSplit, u_lWords, u_gName3, u_gNil3, u_gCons3, u_gTup3, u_gStar3, u_gSub3, u_iLst3, u_iTup3, u_iStr3, u_iRg1, u_iRg2, u_iEnum3, u_iZip3, u_iZipT3, u_iZipS3, u_tYes3, u_lFld, u_lMeth, u_lMake, u_lFrz, u_lLm, u_lDNew, u_lDGet2, u_lDSetd, u_lCallA, u_sFld3, start3, List.map, List.append, List.length, List.replicate, List.set, List.cons_append, List.nil_append, List.getElem?_cons_zero, List.getElem?_cons_succ]
  rw [signs_eq]
  refine lLc_pu (p := p) (fun y => ∃ x, x ∈ signsL ∧ y = sD [x]) (fun ds => ds.length ≤ m) (c + 1) 1 m (fun R hR => ?_) (by omega) ?_ ?_
  · simp only [u_lListRg, u_sRet, u_sRetN, ss_if, ss_asg, ss_drop, ss_ret, ss_retN, ss_next, ss_never, ss_break, ss_cont, ss_seq, ss_par, ss_aug, ss_gh, ss_fld, u_sIf, u_sNever, u_sNext, u_sDrop, u_sAsg, u_sPar, u_sAug, u_sGh, u_sBreak, u_sCont, u_lOp, u_lC, u_lVar, u_lTest, u_lNil, u_lCons, u_lAnd, u_lOr, u_lNot, u_lAndV, u_lOrV, u_lNotV, u_lIf, u_lChain, u_lTup, u_lLst, u_lLstG, u_lCB, u_lCall, u_lIsi, u_lIsi2, u_lSl, u_lNoPart, u_lPart, u_lNeg, u_lJoin, u_lSplit, u_lWords, u_gName3, u_gNil3, u_gCons3, u_gTup3, u_gStar3, u_gSub3, u_iLst3, u_iTup3, u_iStr3, u_iRg1, u_iRg2, u_iEnum3, u_iZip3, u_iZipT3, u_iZipS3, u_tYes3, u_lFld, u_lMeth, u_lMake, u_lFrz, u_lLm, u_lDNew, u_lDGet2, u_lDSetd, u_lCallA, u_sFld3, start3, List.map, List.append, List.length, List.replicate, List.set, List.cons_append, List.nil_append, List.getElem?_cons_zero, List.getElem?_cons_succ]
    rw [q_add]
    try dsimp only
    refine ⟨p, m + 1, c, rfl, by omega, by omega, by omega, hP, fun r G1 hr hP1 hS1 => ?_⟩
    refine ⟨⟨by omega, by omega⟩, hR _ G1 (by rw [rgL_len]; omega) ?_ hP1 hS1⟩
    rw [rgL_len]; omega
  · intro ds j d G2 hZ hd hP2 hK Q' hQ'
    simp only [u_lListRg, u_sRet, u_sRetN, ss_if, ss_asg, ss_drop, ss_ret, ss_retN, ss_next, ss_never, ss_break, ss_cont, ss_seq, ss_par, ss_aug, ss_gh, ss_fld, u_sIf, u_sNever, u_sNext, u_sDrop, u_sAsg, u_sPar, u_sAug, u_sGh, u_sBreak, u_sCont, u_lOp, u_lC, u_lVar, u_lTest, u_lNil, u_lCons, u_lAnd, u_lOr, u_lNot, u_lAndV, u_lOrV, u_lNotV, u_lIf, u_lChain, u_lTup, u_lLst, u_lLstG, u_lCB, u_lCall, u_lIsi, u_lIsi2, u_lSl, u_lNoPart, u_lPart, u_lNeg, u_lJoin, u_lSplit, u_lWords, u_gName3, u_gNil3, u_gCons3, u_gTup3, u_gStar3, u_gSub3, u_iLst3, u_iTup3, u_iStr3, u_iRg1, u_iRg2, u_iEnum3, u_iZip3, u_iZipT3, u_iZipS3, u_tYes3, u_lFld, u_lMeth, u_lMake, u_lFrz, u_lLm, u_lDNew, u_lDGet2, u_lDSetd, u_lCallA, u_sFld3, start3, List.map, List.append, List.length, List.replicate, List.set, List.cons_append, List.nil_append, List.getElem?_cons_zero, List.getElem?_cons_succ, wipe3]
    rw [q_lenS (by omega)]
    try dsimp only
    have hj := (List.getElem?_eq_some_iff.mp hd).1
    refine ⟨p, signsL.length, c + 1 + j * 1, rfl, by omega, by omega, by omega, hP2, fun r G3 hr hP3 hS3 => ?_⟩
    · try dsimp only
      have hx : ∃ x, signsL[r]? = some x := ⟨_, List.getElem?_eq_getElem hr⟩
      obtain ⟨x, hx⟩ := hx
      rw [q_ixS hx (by omega)]
      exact hQ' _ G3 ⟨x, List.mem_of_getElem? hx, rfl⟩ hP3 hS3
  · intro ds ys G2 hZ hyl hM hY hP2 hS2
    obtain ⟨l, rfl, hl⟩ := wit_signs hY
    have hll : l.length = ds.length := by simpa using hyl
    show (match (itemsOf G2 (rowsD (l.map fun x => [x]))).bind strsOf with
      | some ys => (ys.map (·.length)).sum + ys.length * ("" : Str).length ≤ 16777216 ∧ Q (.str (Txt.join "" ys)) G2
      | none => False)
    rw [rows_items]
    have e1 : (((l.map fun x => [x]).map S).map (·.length)).sum = l.length := by
      rw [List.map_map, List.map_map]
      have : (l.map (((fun x : Str => x.length) ∘ S) ∘ fun x => [x])) = l.map fun _ => 1 := List.map_congr_left fun x _ => rfl
      rw [this]
      simp only [List.map_const', List.sum_replicate_nat, Nat.mul_one]
    have e2 : (Txt.join "" ((l.map fun x => [x]).map S)) = S l := by
      show Txt.join Str.empty _ = _
      rw [join0, joinL_nil]
      congr 1
      exact flat1 l
    try dsimp only
    rw [e1, e2]
    have e0 : ("" : Str).length = 0 := rfl
    refine ⟨by rw [e0]; omega, q l G2 (by omega) hl (hP2.up (by omega)) hS2⟩
end K69
end

section
set_option Elab.async false
set_option linter.all false
set_option maxRecDepth 100000
set_option maxHeartbeats 1000000
namespace PT
open PySem PySem.Spec PyProof.Rows L2 L3 PP
/-! ### sorted texts: there is one order -/
def LeS (a b : Str) : Prop := a.cps.toList ≤ b.cps.toList
theorem LeS.trans {a b c : Str} (h : LeS a b) (h2 : LeS b c) : LeS a c := List.le_trans h h2
theorem LeS.antisymm {a b : Str} (h : LeS a b) (h2 : LeS b a) : a = b := by
  have e : a.cps.toList = b.cps.toList := List.le_antisymm h h2
  cases a; cases b
  congr 1
  exact Array.toList_inj.mp e
theorem leS_of {a b : Str} (h : ltCps b.cps.toList a.cps.toList = false) : LeS a b := by
  rw [ltCps_eq] at h
  exact fun z => absurd z (of_decide_eq_false h)
theorem rising_all : ∀ (l : List Str) (p : Str), risingS p l = true → (p :: l).Pairwise LeS
  | [], p, _ => by simp
  | x :: r, p, h => by
    simp only [risingS, Bool.and_eq_true, Bool.not_eq_true'] at h
    have hx := leS_of h.1
    have ih := rising_all r x h.2
    refine List.Pairwise.cons (fun y hy => ?_) ih
    rcases List.mem_cons.mp hy with rfl | hy
    · exact hx
    · exact hx.trans ((List.pairwise_cons.mp ih).1 y hy)
theorem sortedS_pair {l : List Str} (h : sortedS l = true) : l.Pairwise LeS := by
  cases l with
  | nil => exact .nil
  | cons x r => exact rising_all r x h
theorem perm_eq : ∀ {a b : List Str}, a.Perm b → a.Pairwise LeS → b.Pairwise LeS → a = b
  | [], b, p, _, _ => (List.Perm.nil_eq p)
  | x :: a, [], p, _, _ => absurd p.length_eq (by simp)
  | x :: a, z :: b, p, ha, hb => by
    have hx : x ∈ z :: b := p.subset List.mem_cons_self
    have hz : z ∈ x :: a := p.symm.subset List.mem_cons_self
    have e : x = z := by
      rcases List.mem_cons.mp hx with e | hx
      · exact e
      · rcases List.mem_cons.mp hz with e | hz
        · exact e.symm
        · exact ((List.pairwise_cons.mp ha).1 z hz).antisymm ((List.pairwise_cons.mp hb).1 x hx)
    subst e
    rw [perm_eq (List.Perm.cons_inv p) (List.pairwise_cons.mp ha).2 (List.pairwise_cons.mp hb).2]
theorem sort_one {a b ks : List Str} (pa : a.Perm ks) (pb : b.Perm ks) (ha : sortedS a = true) (hb : sortedS b = true) : a = b := perm_eq (pa.trans pb.symm) (sortedS_pair ha) (sortedS_pair hb)
end PT
end

section
set_option Elab.async false
set_option linter.all false
set_option maxRecDepth 100000
set_option maxHeartbeats 4000000
/-! PPe: counts of words. -/
namespace PP
open PySem PySem.Spec PyProof.Rows L2 L3
def cWord (ps : List D) : Option Nat := if ps.length = 1 ∧ ps.all isWD = true then some 1 else none
def cPhrase (ps : List D) : Option Nat := if (2 ≤ ps.length ∧ ps.length ≤ 5) ∧ ps.all isWD = true then some ps.length else none
def cNear (ps : List D) : Option Nat := match ps with
  | [.int far, a, b] => if (1 ≤ far ∧ far ≤ 20) ∧ (isWD a = true ∧ isWD b = true) then some 2 else none
  | _ => none
theorem cNear_len {ps : List D} (h : ps.length ≠ 3) : cNear ps = none := by
  unfold cNear
  split
  · simp at h
  · rfl
def joined (cs : List (Option Nat)) : Option Nat := if (2 ≤ cs.length ∧ cs.length ≤ 4) ∧ cs.all Option.isSome = true then some (cs.map (·.getD 0)).sum else none
def cBut (cs : List (Option Nat)) : Option Nat := if cs.length = 2 then joined cs else none
def cntQ : Nat → D → Option Nat
  | n + 1, .tup (.str k :: ps) => if k = "word" then cWord ps else if k = "phrase" then cPhrase ps else if k = "near" then cNear ps
    else if k = "and" ∨ k = "or" then joined (ps.map (cntQ n)) else if k = "but" then cBut (ps.map (cntQ n)) else none
  | _, _ => none
def optD : Option Nat → D
  | none => .non
  | some n => .int n
theorem optD_non {o : Option Nat} : isNonD (optD o) = !o.isSome := by cases o <;> rfl
theorem optD_scal {o : Option Nat} : isScal (optD o) = true := by cases o <;> rfl
theorem optD_fine {o : Option Nat} {n : Nat} : fine n (optD o) = true := by cases o <;> cases n <;> rfl
theorem q_inN {ys : List D} {G : Gp} {Q : K3} (h : ys.all isScal = true) : rIn3 false .non (.lst ys) G Q = Q (.bl (inD .non ys)) G := by
  have e : rIn3 false .non (.lst ys) G Q = (((isScal .non = true ∧ ys.all isScal = true) ∨ (okD .non ∧ okD (.lst ys) ∧ ∃ zs, D.lst ys = .lst zs)) ∧ Q (.bl (false ^^ inD .non ys)) G) := rfl
  rw [e, Bool.false_xor]
  exact propext ⟨fun h => h.2, fun h' => ⟨.inl ⟨rfl, h⟩, h'⟩⟩
theorem q_inN' {ys : List D} {G : Gp} {Q : K3} (h : okD (.lst ys)) : rIn3 false .non (.lst ys) G Q = Q (.bl (inD .non ys)) G := by
  have e : rIn3 false .non (.lst ys) G Q = (((isScal .non = true ∧ ys.all isScal = true) ∨ (okD .non ∧ okD (.lst ys) ∧ ∃ zs, D.lst ys = .lst zs)) ∧ Q (.bl (false ^^ inD .non ys)) G) := rfl
  rw [e, Bool.false_xor]
  exact propext ⟨fun h => h.2, fun h' => ⟨.inr ⟨fine_ok (n := 0) rfl (by decide), h, ys, rfl⟩, h'⟩⟩
section
variable {n : Nat} {ps : List D}
theorem cnt_word : cntQ (n + 1) (.tup (.str "word" :: ps)) = cWord ps := rfl
theorem cnt_phrase : cntQ (n + 1) (.tup (.str "phrase" :: ps)) = cPhrase ps := rfl
theorem cnt_near : cntQ (n + 1) (.tup (.str "near" :: ps)) = cNear ps := rfl
theorem cnt_and : cntQ (n + 1) (.tup (.str "and" :: ps)) = joined (ps.map (cntQ n)) := rfl
theorem cnt_or : cntQ (n + 1) (.tup (.str "or" :: ps)) = joined (ps.map (cntQ n)) := rfl
theorem cnt_but : cntQ (n + 1) (.tup (.str "but" :: ps)) = cBut (ps.map (cntQ n)) := rfl
end
theorem all_isWD {ps : List D} (h : ps.all isWD = true) : ∃ ws : List Str, ps = ws.map .str ∧ ∀ w ∈ ws, isWS w = true := by
  induction ps with
  | nil => exact ⟨[], rfl, by simp⟩
  | cons p ps ih =>
    rw [List.all_cons, Bool.and_eq_true] at h
    obtain ⟨z, rfl, hz⟩ := isWD_str h.1
    obtain ⟨ws, rfl, hw⟩ := ih h.2
    exact ⟨z :: ws, rfl, by simpa [hz] using hw⟩
theorem joined_some {cs : List (Option Nat)} {m : Nat} (h : joined cs = some m) : (2 ≤ cs.length ∧ cs.length ≤ 4) ∧ ∀ c ∈ cs, c.isSome = true := by
  unfold joined at h
  split at h
  · rename_i h1
    exact ⟨h1.1, List.all_eq_true.mp h1.2⟩
  · cases h
/-- what is counted is a query -/
theorem WQ.of_cnt : ∀ {n : Nat} {q : D} {m : Nat}, cntQ n q = some m → WQ n q
  | 0, q, m, h => by simp [cntQ] at h
  | n + 1, .tup (.str k :: ps), m, h => by
    have go : ∀ {cs : List D}, (∀ c ∈ cs.map (cntQ n), c.isSome = true) → ∀ q ∈ cs, WQ n q := fun {cs} h q hq => by
      have h1 := h (cntQ n q) (List.mem_map.mpr ⟨q, hq, rfl⟩)
      cases e : cntQ n q with
      | none => rw [e] at h1; cases h1
      | some m' => exact WQ.of_cnt e
    unfold cntQ at h
    split at h
    · rename_i e; subst e
      unfold cWord at h
      split at h
      · rename_i h1
        obtain ⟨ws, rfl, hw⟩ := all_isWD h1.2
        match ws, h1.1, hw with
        | [w], _, hw => exact .word n w (hw w (by simp))
        | [], h1, _ => simp at h1
        | _ :: _ :: _, h1, _ => simp at h1
      · cases h
    · split at h
      · rename_i e; subst e
        unfold cPhrase at h
        split at h
        · rename_i h1
          obtain ⟨ws, rfl, hw⟩ := all_isWD h1.2
          rw [List.length_map] at h1
          exact .phrase n ws h1.1.1 h1.1.2 hw
        · cases h
      · split at h
        · rename_i e; subst e
          unfold cNear at h
          split at h
          · rename_i far a b
            split at h
            · rename_i h1
              obtain ⟨x, rfl, hx⟩ := isWD_str h1.2.1
              obtain ⟨y, rfl, hy⟩ := isWD_str h1.2.2
              exact .near n far x y h1.1.1 h1.1.2 hx hy
            · cases h
          · cases h
        · split at h
          · rename_i e
            obtain ⟨h1, h2⟩ := joined_some h
            rw [List.length_map] at h1
            rcases e with e | e
            · subst e; exact .conj n ps h1.1 h1.2 (go h2)
            · subst e; exact .disj n ps h1.1 h1.2 (go h2)
          · split at h
            · rename_i e; subst e
              unfold cBut at h
              split at h
              · rename_i h0
                obtain ⟨h1, h2⟩ := joined_some h
                rw [List.length_map] at h0
                match ps, h0, h2 with
                | [a, b], _, h2 => exact .but n a b (go h2 a (by simp)) (go h2 b (by simp))
              · cases h
            · cases h
  | n + 1, .non, m, h => by simp [cntQ] at h
  | n + 1, .bl _, m, h => by simp [cntQ] at h
  | n + 1, .int _, m, h => by simp [cntQ] at h
  | n + 1, .str _, m, h => by simp [cntQ] at h
  | n + 1, .ty _, m, h => by simp [cntQ] at h
  | n + 1, .ref _, m, h => by simp [cntQ] at h
  | n + 1, .lst _, m, h => by simp [cntQ] at h
  | n + 1, .dic _, m, h => by simp [cntQ] at h
  | n + 1, .ins _ _, m, h => by simp [cntQ] at h
  | n + 1, .scr _, m, h => by simp [cntQ] at h
  | n + 1, .tup [], m, h => by simp [cntQ] at h
  | n + 1, .tup (.non :: _), m, h => by simp [cntQ] at h
  | n + 1, .tup (.bl _ :: _), m, h => by simp [cntQ] at h
  | n + 1, .tup (.int _ :: _), m, h => by simp [cntQ] at h
  | n + 1, .tup (.ty _ :: _), m, h => by simp [cntQ] at h
  | n + 1, .tup (.ref _ :: _), m, h => by simp [cntQ] at h
  | n + 1, .tup (.lst _ :: _), m, h => by simp [cntQ] at h
  | n + 1, .tup (.tup _ :: _), m, h => by simp [cntQ] at h
  | n + 1, .tup (.dic _ :: _), m, h => by simp [cntQ] at h
  | n + 1, .tup (.ins _ _ :: _), m, h => by simp [cntQ] at h
  | n + 1, .tup (.scr _ :: _), m, h => by simp [cntQ] at h
/-- a query counts the same with more room -/
theorem cnt_up : ∀ {n : Nat} {q : D} {m : Nat}, cntQ n q = some m → cntQ (n + 1) q = some m := by
  intro n q m h
  have w := WQ.of_cnt h
  induction w generalizing m with
  | word n w h' => exact h
  | phrase n ws h2 h5 h' => exact h
  | near n far a b h1 h2 ha hb => exact h
  | conj n qs h2 h4 h' ih =>
    rw [cnt_and] at h ⊢
    have e : qs.map (cntQ (n + 1)) = qs.map (cntQ n) := List.map_congr_left fun q hq => by
      obtain ⟨_, h3⟩ := joined_some h
      have h1 := h3 (cntQ n q) (List.mem_map.mpr ⟨q, hq, rfl⟩)
      cases e : cntQ n q with
      | none => rw [e] at h1; cases h1
      | some m' => exact ih q hq e
    rw [e]; exact h
  | disj n qs h2 h4 h' ih =>
    rw [cnt_or] at h ⊢
    have e : qs.map (cntQ (n + 1)) = qs.map (cntQ n) := List.map_congr_left fun q hq => by
      obtain ⟨_, h3⟩ := joined_some h
      have h1 := h3 (cntQ n q) (List.mem_map.mpr ⟨q, hq, rfl⟩)
      cases e : cntQ n q with
      | none => rw [e] at h1; cases h1
      | some m' => exact ih q hq e
    rw [e]; exact h
  | but n a b ha hb iha ihb =>
    rw [cnt_but] at h ⊢
    have h0 : joined ([a, b].map (cntQ n)) = some m := h
    obtain ⟨_, h3⟩ := joined_some h0
    have ea : cntQ (n + 1) a = cntQ n a := by
      have h1 := h3 (cntQ n a) (by simp)
      cases e : cntQ n a with
      | none => rw [e] at h1; cases h1
      | some m' => exact iha e
    have eb : cntQ (n + 1) b = cntQ n b := by
      have h1 := h3 (cntQ n b) (by simp)
      cases e : cntQ n b with
      | none => rw [e] at h1; cases h1
      | some m' => exact ihb e
    have e : [a, b].map (cntQ (n + 1)) = [a, b].map (cntQ n) := by simp [ea, eb]
    rw [e]; exact h
theorem cnt_le {n k m : Nat} {q : D} (h : cntQ n q = some m) (hk : n ≤ k) : cntQ k q = some m := by
  induction hk with
  | refl => exact h
  | step _ ih => exact cnt_up ih
def isQy (d : D) : Bool := match cntQ 5 d with
  | some m => decide (m ≤ 12)
  | none => false
theorem isQ_WQ {d : D} (h : isQy d = true) : WQ 5 d := by
  unfold isQy at h
  cases e : cntQ 5 d with
  | none => rw [e] at h; cases h
  | some m => exact WQ.of_cnt e
end PP
end

section
set_option Elab.async false
set_option linter.all false
set_option maxRecDepth 100000
set_option maxHeartbeats 1000000
namespace K69
open PySem PySem.Spec PyProof.Rows L2 L3 PP PT
/-! ### files and deeds, plainly -/
inductive Dd where
  | wr (n t : Str) | er (n : Str)
abbrev FS := List (Str × Str)
def fsD (fs : FS) : List (Key × D) := fs.map fun p => (Sum.inr p.1, D.str p.2)
def deD : Dd → D
  | .wr n t => .tup [.str "write", .str n, .str t]
  | .er n => .tup [.str "erase", .str n]
def getF (fs : FS) (n : Str) : Option Str := (fs.find? fun p => decide (p.1 = n)).map (·.2)
def putF (fs : FS) (n t : Str) : FS := if (fs.any fun p => decide (p.1 = n)) = true then fs.map (fun p => if p.1 = n then (p.1, t) else p) else fs ++ [(n, t)]
def dropF (fs : FS) (n : Str) : FS := fs.filter fun p => decide (p.1 ≠ n)
def most : Dd → Int
  | .wr _ t => (t.length : Int) + 1
  | .er _ => 1
def step (fs : FS) : Dd → Int → FS
  | .er n, _ => if (getF fs n).isSome then dropF fs n else fs
  | .wr n t, i => putF fs n (cutS t none (some (i - 1)))
def stepP (fs : FS) (x : Dd × Int) : FS := if 0 < x.2 then step fs x.1 x.2 else fs
def doneF (fs : FS) (l : List (Dd × Int)) : FS := l.foldl stepP fs
def seenF (fs : FS) (dl : List Dd) : FS := doneF fs (dl.map fun d => (d, most d))
theorem most_pos (d : Dd) : 0 < most d := by cases d <;> simp only [most] <;> omega
theorem seen_take (fs : FS) (dl : List Dd) (i : Nat) {d : Dd} (h : dl[i]? = some d) : seenF fs (dl.take (i + 1)) = step (seenF fs (dl.take i)) d (most d) := by
  unfold seenF doneF
  rw [List.take_add_one, h, Option.toList_some, List.map_append, List.foldl_append]
  show stepP _ (d, most d) = _
  unfold stepP
  rw [if_pos (most_pos d)]
theorem done_take (fs : FS) (l : List (Dd × Int)) (i : Nat) {x : Dd × Int} (h : l[i]? = some x) : doneF fs (l.take (i + 1)) = stepP (doneF fs (l.take i)) x := by
  unfold doneF
  rw [List.take_add_one, h, Option.toList_some, List.foldl_append]
  rfl
theorem val_fs (fs : FS) (n : Str) : valD (fsD fs) (.inr n) = (getF fs n).map D.str := by
  unfold valD fsD getF
  rw [List.find?_map]
  have e : ((fun kv : Key × D => decide (kv.1 = Sum.inr n)) ∘ fun p : Str × Str => ((Sum.inr p.1 : Key), D.str p.2)) = fun p => decide (p.1 = n) := by
    funext p
    show decide ((Sum.inr p.1 : Key) = Sum.inr n) = decide (p.1 = n)
    by_cases h : p.1 = n
    · rw [decide_eq_true h, decide_eq_true (by rw [h])]
    · rw [decide_eq_false h, decide_eq_false fun z => h (Sum.inr.inj z)]
  rw [e]
  cases fs.find? fun p => decide (p.1 = n) <;> rfl
theorem key_dec (a n : Str) : decide ((Sum.inr a : Key) = Sum.inr n) = decide (a = n) := by
  by_cases h : a = n
  · rw [decide_eq_true h, decide_eq_true (by rw [h])]
  · rw [decide_eq_false h, decide_eq_false fun z => h (Sum.inr.inj z)]
theorem put_fs (fs : FS) (n t : Str) : putKD (fsD fs) (.inr n) (.str t) = fsD (putF fs n t) := by
  unfold putKD putF fsD
  have e : ((fs.map fun p : Str × Str => ((Sum.inr p.1 : Key), D.str p.2)).any fun kv => decide (kv.1 = Sum.inr n)) = fs.any fun p => decide (p.1 = n) := by
    rw [List.any_map]
    congr 1
    funext p
    exact key_dec _ _
  rw [e]
  by_cases h : (fs.any fun p => decide (p.1 = n)) = true
  · rw [if_pos h, if_pos h, List.map_map, List.map_map]
    refine List.map_congr_left fun p _ => ?_
    show (if (Sum.inr p.1 : Key) = Sum.inr n then _ else _) = _
    by_cases hp : p.1 = n
    · rw [if_pos (by rw [hp])]; simp [hp]
    · rw [if_neg fun z => hp (Sum.inr.inj z)]; simp [hp]
  · rw [if_neg h, if_neg h, List.map_append]; rfl
theorem drop_fs (fs : FS) (n : Str) : dropKD (fsD fs) (.inr n) = fsD (dropF fs n) := by
  unfold dropKD dropF fsD
  rw [List.filter_map]
  congr 1
  refine List.filter_congr fun p _ => ?_
  show decide ((Sum.inr p.1 : Key) ≠ Sum.inr n) = decide (p.1 ≠ n)
  simp only [ne_eq, decide_not, key_dec]
theorem keys_fs (fs : FS) : (fsD fs).map (·.1) = (fs.map (·.1)).map Sum.inr := by
  unfold fsD
  rw [List.map_map, List.map_map]; rfl
theorem len_fs (fs : FS) : (fsD fs).length = fs.length := by unfold fsD; rw [List.length_map]
/-! ### what stays small -/
theorem put_len (fs : FS) (n t : Str) : (putF fs n t).length ≤ fs.length + 1 := by
  unfold putF
  split
  · rw [List.length_map]; omega
  · rw [List.length_append]; simp
theorem drop_len (fs : FS) (n : Str) : (dropF fs n).length ≤ fs.length := List.length_filter_le ..
theorem step_len (fs : FS) (d : Dd) (i : Int) : (step fs d i).length ≤ fs.length + 1 := by
  cases d with
  | wr n t => exact put_len ..
  | er n =>
    show (if (getF fs n).isSome then dropF fs n else fs).length ≤ _
    have := drop_len fs n
    by_cases h : (getF fs n).isSome = true
    · rw [if_pos h]; omega
    · rw [if_neg h]; omega
/-! ### names -/
def sgnL : List Nat := [97, 98, 99, 100, 101, 102, 103, 104, 105, 106, 107, 108, 109, 110, 111, 112, 113, 114, 115, 116, 117, 118, 119, 120, 121, 122, 48, 49, 50, 51, 52, 53, 54, 55, 56, 57, 46]
theorem sgn_eq : ("abcdefghijklmnopqrstuvwxyz0123456789." : Str).cps.toList = sgnL := by decide +kernel
def isNm (n : Str) : Bool := decide (1 ≤ n.length) && (decide (n.length ≤ 12) && n.cps.toList.all fun c => decide (c ∈ sgnL))
def sp_name : Sp3 := fun ds G Q => ∃ d, ds = [d] ∧ ((∃ n : Str, d = .str n ∧ n.length ≤ 4000 ∧ Q (.bl (isNm n)) G) ∨ ∃ k, kdOf G d = some k ∧ k ≠ .str ∧ Q (.bl false) G)
theorem isi_str {k : Kd} (h : k ≠ .str) : isTy .str k = false := by cases k <;> first | rfl | exact absurd rfl h
theorem p_is_name (ds : List D) (G : Gp) (Q : K3) (h : sp_name ds G Q) : t_is_name (D0 Q) (start3 N_is_name ds) G := by
  obtain ⟨d, rfl, ⟨n, rfl, hn, q⟩ | ⟨k, hk, hne, q⟩⟩ := h
  · have hz : sizeLine = 2 ^ 24 := rfl
    simp only [t_is_name, N_is_name, u_lListRg, u_sRet, u_sRetN, ss_if, ss_asg, ss_drop, ss_ret, ss_retN, ss_next, ss_never, ss_break, ss_cont, ss_seq, ss_par, ss_aug, ss_gh, ss_fld, u_sIf, u_sNever, u_sNext, u_sDrop, u_sAsg, u_sPar, u_sAug, u_sGh, u_sBreak, u_sCont, u_lOp, u_lC, u_lVar, u_lTest, u_lNil, u_lCons, u_lAnd, u_lOr, u_lNot, u_lAndV, u_lOrV, u_lNotV, u_lIf, u_lChain, u_lTup, u_lLst, u_lLstG, u_lCB, u_lCall, u_lIsi, u_lIsi2, u_lSl, u_lNoPart, u_lPart, u_lNeg, u_lJoin, u_lSplit, u_lWords, u_gName3, u_gNil3, u_gCons3, u_gTup3, u_gStar3, u_gSub3, u_iLst3, u_iTup3, u_iStr3, u_iRg1, u_iRg2, u_iEnum3, u_iZip3, u_iZipT3, u_iZipS3, u_tYes3, u_lFld, u_lMeth, u_lMake, u_lFrz, u_lLm, u_lDNew, u_lDGet2, u_lDSetd, u_lCallA, u_sFld3, u_lDIn, u_lDIx, u_lDPop1, u_gDSub, u_gFld3, u_iLive, u_iZipL, u_iEnumQ3, u_lMethE, u_sRaise1, u_sRaise0, ss_raise1, ss_raise0, start3, List.map, List.append, List.length, List.replicate, List.set, List.cons_append, List.nil_append, List.getElem?_cons_zero, List.getElem?_cons_succ, kdOf, isTy, lChain]
    rw [if_pos trivial]
    rw [q_len_str (by omega), q_le]
    try dsimp only
    unfold isNm at q
    by_cases h1 : (1 : Int) ≤ (n.length : Int)
    · rw [decide_eq_true h1, if_pos rfl, q_le]
      rw [decide_eq_true (by omega : 1 ≤ n.length), Bool.true_and] at q
      try dsimp only
      by_cases h2 : (n.length : Int) ≤ 12
      · rw [decide_eq_true h2, if_pos rfl]
        rw [decide_eq_true (by omega : n.length ≤ 12), Bool.true_and] at q
        refine lLc_map (fun d => match d with | .str z => .bl (decide (z.cps.toList.all (fun c => decide (c ∈ sgnL)))) | _ => .non) (sgL n) (fun R h => h) ?_ ?_ ?_
        · unfold sgL
          rw [List.length_map, Array.length_toList]
          have : n.cps.size = n.length := rfl
          omega
        · intro j d G' hd hG Q' hq
          unfold sgL at hd
          rw [List.getElem?_map] at hd
          cases e : n.cps.toList[j]? with
          | none => rw [e] at hd; cases hd
          | some c =>
            rw [e] at hd
            cases hd
            simp only [u_lListRg, u_sRet, u_sRetN, ss_if, ss_asg, ss_drop, ss_ret, ss_retN, ss_next, ss_never, ss_break, ss_cont, ss_seq, ss_par, ss_aug, ss_gh, ss_fld, u_sIf, u_sNever, u_sNext, u_sDrop, u_sAsg, u_sPar, u_sAug, u_sGh, u_sBreak, u_sCont, u_lOp, u_lC, u_lVar, u_lTest, u_lNil, u_lCons, u_lAnd, u_lOr, u_lNot, u_lAndV, u_lOrV, u_lNotV, u_lIf, u_lChain, u_lTup, u_lLst, u_lLstG, u_lCB, u_lCall, u_lIsi, u_lIsi2, u_lSl, u_lNoPart, u_lPart, u_lNeg, u_lJoin, u_lSplit, u_lWords, u_gName3, u_gNil3, u_gCons3, u_gTup3, u_gStar3, u_gSub3, u_iLst3, u_iTup3, u_iStr3, u_iRg1, u_iRg2, u_iEnum3, u_iZip3, u_iZipT3, u_iZipS3, u_tYes3, u_lFld, u_lMeth, u_lMake, u_lFrz, u_lLm, u_lDNew, u_lDGet2, u_lDSetd, u_lCallA, u_sFld3, u_lDIn, u_lDIx, u_lDPop1, u_gDSub, u_gFld3, u_iLive, u_iZipL, u_iEnumQ3, u_lMethE, u_sRaise1, u_sRaise0, ss_raise1, ss_raise0, start3, List.map, List.append, List.length, List.replicate, List.set, List.cons_append, List.nil_append, List.getElem?_cons_zero, List.getElem?_cons_succ, wipe3]
            rw [q_sign, sgn_eq]
            have e2 : (decide ((#[c] : Array Nat).toList.all fun c => decide (c ∈ sgnL)) : Bool) = decide (c ∈ sgnL) := by simp
            show Q' (.bl (decide (c ∈ sgnL))) G'
            rw [← e2]
            exact hq
        · have e3 : ((sgL n).map fun d : D => match d with | .str z => D.bl (decide (z.cps.toList.all (fun c => decide (c ∈ sgnL)))) | _ => .non) = n.cps.toList.map fun c => D.bl (decide (c ∈ sgnL)) := by
            unfold sgL
            rw [List.map_map]
            refine List.map_congr_left fun c _ => ?_
            show D.bl (decide ((#[c] : Array Nat).toList.all fun c => decide (c ∈ sgnL))) = _
            congr 1
            simp
          rw [e3, q_all]
          exact q
      · rw [decide_eq_false h2, if_neg Bool.false_ne_true]
        rw [decide_eq_false (by omega : ¬ n.length ≤ 12), Bool.false_and] at q
        exact q
    · rw [decide_eq_false h1, if_neg Bool.false_ne_true]
      rw [decide_eq_false (by omega : ¬ 1 ≤ n.length), Bool.false_and] at q
      exact q
  · simp only [t_is_name, N_is_name, u_lListRg, u_sRet, u_sRetN, ss_if, ss_asg, ss_drop, ss_ret, ss_retN, ss_next, ss_never, ss_break, ss_cont, ss_seq, ss_par, ss_aug, ss_gh, ss_fld, u_sIf, u_sNever, u_sNext, u_sDrop, u_sAsg, u_sPar, u_sAug, u_sGh, u_sBreak, u_sCont, u_lOp, u_lC, u_lVar, u_lTest, u_lNil, u_lCons, u_lAnd, u_lOr, u_lNot, u_lAndV, u_lOrV, u_lNotV, u_lIf, u_lChain, u_lTup, u_lLst, u_lLstG, u_lCB, u_lCall, u_lIsi, u_lIsi2, u_lSl, u_lNoPart, u_lPart, u_lNeg, u_lJoin, u_lSplit, u_lWords, u_gName3, u_gNil3, u_gCons3, u_gTup3, u_gStar3, u_gSub3, u_iLst3, u_iTup3, u_iStr3, u_iRg1, u_iRg2, u_iEnum3, u_iZip3, u_iZipT3, u_iZipS3, u_tYes3, u_lFld, u_lMeth, u_lMake, u_lFrz, u_lLm, u_lDNew, u_lDGet2, u_lDSetd, u_lCallA, u_sFld3, u_lDIn, u_lDIx, u_lDPop1, u_gDSub, u_gFld3, u_iLive, u_iZipL, u_iEnumQ3, u_lMethE, u_sRaise1, u_sRaise0, ss_raise1, ss_raise0, start3, List.map, List.append, List.length, List.replicate, List.set, List.cons_append, List.nil_append, List.getElem?_cons_zero, List.getElem?_cons_succ]
    rw [hk]
    try dsimp only
    rw [isi_str hne, if_neg Bool.false_ne_true]
    exact q
/-! ### the greatest pick, a change -/
theorem wr_er : decide (("write" : Str) = "erase") = false := by decide +kernel
def sp_most : Sp3 := fun ds G Q => ∃ d : Dd, ds = [deD d] ∧ (∀ n t, d = .wr n t → t.length ≤ 4000) ∧ Q (.int (most d)) G
theorem p_most (ds : List D) (G : Gp) (Q : K3) (h : sp_most ds G Q) : t_most_pick (D0 Q) (start3 N_most_pick ds) G := by
  obtain ⟨d, rfl, hd, q⟩ := h
  cases d with
  | wr n t =>
    have ht := hd n t rfl
    simp only [t_most_pick, N_most_pick, u_lListRg, u_sRet, u_sRetN, ss_if, ss_asg, ss_drop, ss_ret, ss_retN, ss_next, ss_never, ss_break, ss_cont, ss_seq, ss_par, ss_aug, ss_gh, ss_fld, u_sIf, u_sNever, u_sNext, u_sDrop, u_sAsg, u_sPar, u_sAug, u_sGh, u_sBreak, u_sCont, u_lOp, u_lC, u_lVar, u_lTest, u_lNil, u_lCons, u_lAnd, u_lOr, u_lNot, u_lAndV, u_lOrV, u_lNotV, u_lIf, u_lChain, u_lTup, u_lLst, u_lLstG, u_lCB, u_lCall, u_lIsi, u_lIsi2, u_lSl, u_lNoPart, u_lPart, u_lNeg, u_lJoin, u_lSplit, u_lWords, u_gName3, u_gNil3, u_gCons3, u_gTup3, u_gStar3, u_gSub3, u_iLst3, u_iTup3, u_iStr3, u_iRg1, u_iRg2, u_iEnum3, u_iZip3, u_iZipT3, u_iZipS3, u_tYes3, u_lFld, u_lMeth, u_lMake, u_lFrz, u_lLm, u_lDNew, u_lDGet2, u_lDSetd, u_lCallA, u_sFld3, u_lDIn, u_lDIx, u_lDPop1, u_gDSub, u_gFld3, u_iLive, u_iZipL, u_iEnumQ3, u_lMethE, u_sRaise1, u_sRaise0, ss_raise1, ss_raise0, start3, List.map, List.append, List.length, List.replicate, List.set, List.cons_append, List.nil_append, List.getElem?_cons_zero, List.getElem?_cons_succ, deD]
    rw [q_ix0, q_eq_str, wr_er]
    try dsimp only
    rw [if_neg Bool.false_ne_true, q_ix2]
    try dsimp only
    rw [q_len_str (by omega), q_add]
    exact q
  | er n =>
    simp only [t_most_pick, N_most_pick, u_lListRg, u_sRet, u_sRetN, ss_if, ss_asg, ss_drop, ss_ret, ss_retN, ss_next, ss_never, ss_break, ss_cont, ss_seq, ss_par, ss_aug, ss_gh, ss_fld, u_sIf, u_sNever, u_sNext, u_sDrop, u_sAsg, u_sPar, u_sAug, u_sGh, u_sBreak, u_sCont, u_lOp, u_lC, u_lVar, u_lTest, u_lNil, u_lCons, u_lAnd, u_lOr, u_lNot, u_lAndV, u_lOrV, u_lNotV, u_lIf, u_lChain, u_lTup, u_lLst, u_lLstG, u_lCB, u_lCall, u_lIsi, u_lIsi2, u_lSl, u_lNoPart, u_lPart, u_lNeg, u_lJoin, u_lSplit, u_lWords, u_gName3, u_gNil3, u_gCons3, u_gTup3, u_gStar3, u_gSub3, u_iLst3, u_iTup3, u_iStr3, u_iRg1, u_iRg2, u_iEnum3, u_iZip3, u_iZipT3, u_iZipS3, u_tYes3, u_lFld, u_lMeth, u_lMake, u_lFrz, u_lLm, u_lDNew, u_lDGet2, u_lDSetd, u_lCallA, u_sFld3, u_lDIn, u_lDIx, u_lDPop1, u_gDSub, u_gFld3, u_iLive, u_iZipL, u_iEnumQ3, u_lMethE, u_sRaise1, u_sRaise0, ss_raise1, ss_raise0, start3, List.map, List.append, List.length, List.replicate, List.set, List.cons_append, List.nil_append, List.getElem?_cons_zero, List.getElem?_cons_succ, deD]
    rw [q_ix0, q_eq_str, decide_eq_true rfl]
    exact q
def sp_chg : Sp3 := fun ds G Q => ∃ r d i fs, ds = [.ref r, deD d, .int i] ∧ G r = some (.dic (fsD fs)) ∧ fs.length < 1000 ∧ (∀ n t, d = .wr n t → t.length ≤ 4000) ∧ Q .non (gup G r (.dic (fsD (step fs d i))))
theorem gup_self {G : Gp} {r : Addr} {o : GO} (h : G r = some o) : gup G r o = G := by
  funext b
  by_cases e : b = r
  · rw [e, gup_same, h]
  · rw [gup_ne e]
theorem p_changed (ds : List D) (G : Gp) (Q : K3) (h : sp_chg ds G Q) : t_changed (D0 Q) (start3 N_changed ds) G := by
  obtain ⟨r, d, i, fs, rfl, hr, hl, hd, q⟩ := h
  have hz : sizeLine = 2 ^ 24 := rfl
  cases d with
  | wr n t =>
    have ht := hd n t rfl
    simp only [t_changed, N_changed, u_lListRg, u_sRet, u_sRetN, ss_if, ss_asg, ss_drop, ss_ret, ss_retN, ss_next, ss_never, ss_break, ss_cont, ss_seq, ss_par, ss_aug, ss_gh, ss_fld, u_sIf, u_sNever, u_sNext, u_sDrop, u_sAsg, u_sPar, u_sAug, u_sGh, u_sBreak, u_sCont, u_lOp, u_lC, u_lVar, u_lTest, u_lNil, u_lCons, u_lAnd, u_lOr, u_lNot, u_lAndV, u_lOrV, u_lNotV, u_lIf, u_lChain, u_lTup, u_lLst, u_lLstG, u_lCB, u_lCall, u_lIsi, u_lIsi2, u_lSl, u_lNoPart, u_lPart, u_lNeg, u_lJoin, u_lSplit, u_lWords, u_gName3, u_gNil3, u_gCons3, u_gTup3, u_gStar3, u_gSub3, u_iLst3, u_iTup3, u_iStr3, u_iRg1, u_iRg2, u_iEnum3, u_iZip3, u_iZipT3, u_iZipS3, u_tYes3, u_lFld, u_lMeth, u_lMake, u_lFrz, u_lLm, u_lDNew, u_lDGet2, u_lDSetd, u_lCallA, u_sFld3, u_lDIn, u_lDIx, u_lDPop1, u_gDSub, u_gFld3, u_iLive, u_iZipL, u_iEnumQ3, u_lMethE, u_sRaise1, u_sRaise0, ss_raise1, ss_raise0, start3, List.map, List.append, List.length, List.replicate, List.set, List.cons_append, List.nil_append, List.getElem?_cons_zero, List.getElem?_cons_succ, deD, itemsOf]
    refine ⟨by simp, ?_⟩
    simp only [List.take, List.drop, List.cons_append, List.nil_append]
    rw [q_eq_str, wr_er]
    try dsimp only
    rw [if_neg Bool.false_ne_true, q_lx0]
    try dsimp only
    rw [q_sub]
    try dsimp only
    refine ⟨by omega, ?_⟩
    simp only [hr, keyD]
    refine ⟨by rw [len_fs]; omega, ?_⟩
    rw [put_fs]
    exact q
  | er n =>
    simp only [t_changed, N_changed, u_lListRg, u_sRet, u_sRetN, ss_if, ss_asg, ss_drop, ss_ret, ss_retN, ss_next, ss_never, ss_break, ss_cont, ss_seq, ss_par, ss_aug, ss_gh, ss_fld, u_sIf, u_sNever, u_sNext, u_sDrop, u_sAsg, u_sPar, u_sAug, u_sGh, u_sBreak, u_sCont, u_lOp, u_lC, u_lVar, u_lTest, u_lNil, u_lCons, u_lAnd, u_lOr, u_lNot, u_lAndV, u_lOrV, u_lNotV, u_lIf, u_lChain, u_lTup, u_lLst, u_lLstG, u_lCB, u_lCall, u_lIsi, u_lIsi2, u_lSl, u_lNoPart, u_lPart, u_lNeg, u_lJoin, u_lSplit, u_lWords, u_gName3, u_gNil3, u_gCons3, u_gTup3, u_gStar3, u_gSub3, u_iLst3, u_iTup3, u_iStr3, u_iRg1, u_iRg2, u_iEnum3, u_iZip3, u_iZipT3, u_iZipS3, u_tYes3, u_lFld, u_lMeth, u_lMake, u_lFrz, u_lLm, u_lDNew, u_lDGet2, u_lDSetd, u_lCallA, u_sFld3, u_lDIn, u_lDIx, u_lDPop1, u_gDSub, u_gFld3, u_iLive, u_iZipL, u_iEnumQ3, u_lMethE, u_sRaise1, u_sRaise0, ss_raise1, ss_raise0, start3, List.map, List.append, List.length, List.replicate, List.set, List.cons_append, List.nil_append, List.getElem?_cons_zero, List.getElem?_cons_succ, deD, itemsOf]
    refine ⟨by simp, ?_⟩
    simp only [List.take, List.drop, List.cons_append, List.nil_append]
    rw [q_eq_str, decide_eq_true rfl]
    try dsimp only
    rw [if_pos rfl]
    simp only [dicOf, hr, keyD, val_fs, Bool.false_xor]
    have es : step fs (.er n) i = if (getF fs n).isSome then dropF fs n else fs := rfl
    rw [es] at q
    cases e : getF fs n with
    | some t =>
      rw [e] at q
      simp only [Option.map_some, Option.isSome_some, if_true] at q ⊢
      refine ⟨r, fsD fs, rfl, hr, ?_⟩
      try rw [hr]
      refine ⟨.str t, by first | (rw [val_fs, e]; rfl) | rfl, ?_⟩
      rw [drop_fs]
      exact q
    | none =>
      rw [e] at q
      simp only [Option.map_none, Option.isSome_none, Bool.false_eq_true, if_false] at q ⊢
      rw [gup_self hr] at q
      exact q
end K69
end

section
set_option Elab.async false
set_option linter.all false
set_option maxRecDepth 100000
set_option maxHeartbeats 1000000
namespace K69
open PySem PySem.Spec PyProof.Rows L2 L3 PP PT
/-! ### what stays -/
def Kp (xs : List Addr) (G G' : Gp) : Prop := ∀ b o, b ∉ xs → G b = some o → G' b = some o
theorem Kp.refl (xs : List Addr) (G : Gp) : Kp xs G G := fun _ _ _ h => h
theorem Kp.trans {xs ys : List Addr} {G G1 G2 : Gp} (a : Kp xs G G1) (b : Kp ys G1 G2) (h : ∀ x ∈ ys, x ∈ xs ∨ G x = none) : Kp xs G G2 := fun c o hc e => by
  refine b c o (fun hy => ?_) (a c o hc e)
  rcases h c hy with z | z
  · exact hc z
  · rw [e] at z; cases z
theorem Kp.mono {xs ys : List Addr} {G G' : Gp} (a : Kp xs G G') (h : ∀ x ∈ xs, x ∈ ys) : Kp ys G G' := fun b o hb e => a b o (fun z => hb (h b z)) e
theorem Kp.new {G : Gp} {p : Addr} {o : GO} (h : G p = none) : Kp [] G (gup G p o) := fun b u _ e => by rw [gup_ne fun z => by rw [z, h] at e; cases e]; exact e
theorem Kp.wr {G : Gp} {p : Addr} {o : GO} : Kp [p] G (gup G p o) := fun b u hb e => by rw [gup_ne fun z => hb (by rw [z]; exact List.mem_singleton.mpr rfl)]; exact e
theorem Sb.kp {p : Addr} {G G' : Gp} (s : Sb p G G') : Kp [p] G G' := fun b u hb e => by rw [s b fun z => hb (by rw [z]; exact List.mem_singleton.mpr rfl)]; exact e
theorem Kp.del {G : Gp} {p : Addr} : Kp [p] G (gdel G p) := fun b u hb e => by rw [gdel_ne fun z => hb (by rw [z]; exact List.mem_singleton.mpr rfl)]; exact e
/-! ### a disk -/
structure DkC (K : PySem.W.Frag) (C : Addr) : Prop where
  cls : Cls K C
  nf : NoAttr K C "files"
  nq : NoAttr K C "queue"
structure DiskAt (C p f q : Addr) (fs : FS) (dl : List Dd) (G : Gp) : Prop where
  at_ : G p = some (.ins C [("files", .ref f), ("queue", .ref q)])
  fl : G f = some (.dic (fsD fs))
  qu : G q = some (.lst (dl.map deD))
theorem DiskAt.pf {C p f q : Addr} {fs : FS} {dl : List Dd} {G : Gp} (h : DiskAt C p f q fs dl G) : f ≠ p := fun e => by have := h.fl; rw [e, h.at_] at this; cases this
theorem DiskAt.pq {C p f q : Addr} {fs : FS} {dl : List Dd} {G : Gp} (h : DiskAt C p f q fs dl G) : q ≠ p := fun e => by have := h.qu; rw [e, h.at_] at this; cases this
theorem DiskAt.fq {C p f q : Addr} {fs : FS} {dl : List Dd} {G : Gp} (h : DiskAt C p f q fs dl G) : q ≠ f := fun e => by have := h.qu; rw [e, h.fl] at this; cases this
theorem DiskAt.keep {C p f q : Addr} {fs : FS} {dl : List Dd} {G G' : Gp} {xs : List Addr} (h : DiskAt C p f q fs dl G) (k : Kp xs G G') (hp : p ∉ xs) (hf : f ∉ xs) (hq : q ∉ xs) : DiskAt C p f q fs dl G' :=
  ⟨k _ _ hp h.at_, k _ _ hf h.fl, k _ _ hq h.qu⟩
def SmD (dl : List Dd) : Prop := ∀ d ∈ dl, ∀ n t, d = Dd.wr n t → t.length ≤ 4000
theorem seen_len : ∀ (dl : List Dd) (fs : FS), (seenF fs dl).length ≤ fs.length + dl.length
  | [], fs => by show fs.length ≤ _; simp
  | d :: dl, fs => by
    have e : seenF fs (d :: dl) = seenF (step fs d (most d)) dl := by
      show List.foldl stepP (stepP fs (d, most d)) _ = _
      unfold stepP
      rw [if_pos (most_pos d)]
      rfl
    rw [e]
    have := seen_len dl (step fs d (most d))
    have := step_len fs d (most d)
    simp only [List.length_cons]; omega
section
variable {K : PySem.W.Frag} {C p f q : Addr} {fs : FS} {dl : List Dd} {G : Gp} {Q : K3}
theorem ins_ref {p C : Addr} {l : List (Str × D)} {G : Gp} (h : G p = some (.ins C l)) : insOf G (.ref p) = some (C, l) := by
  show (match G p with | some (.ins C fs) => some (C, fs) | _ => none) = _
  rw [h]
theorem lst_ref {p : Addr} {l : List D} {G : Gp} (h : G p = some (.lst l)) : lstOf G (.ref p) = some l := by
  show (match G p with | some (.lst ds) => some ds | _ => none) = _
  rw [h]
theorem dic_ref {p : Addr} {l : List (Key × D)} {G : Gp} (h : G p = some (.dic l)) : dicOf G (.ref p) = some l := by
  show (match G p with | some (.dic ds) => some ds | _ => none) = _
  rw [h]
theorem f_files {R : D → Prop} (c : DkC K C) (h : DiskAt C p f q fs dl G) (k : R (.ref f)) : ∃ C' fs' d', insOf G (.ref p) = some (C', fs') ∧ Cls K C' ∧ NoAttr K C' "files" ∧ fs'.lookup ("files" : Str) = some d' ∧ R d' := ⟨C, _, .ref f, ins_ref h.at_, c.cls, c.nf, rfl, k⟩
theorem f_queue {R : D → Prop} (c : DkC K C) (h : DiskAt C p f q fs dl G) (k : R (.ref q)) : ∃ C' fs' d', insOf G (.ref p) = some (C', fs') ∧ Cls K C' ∧ NoAttr K C' "queue" ∧ fs'.lookup ("queue" : Str) = some d' ∧ R d' := ⟨C, _, .ref q, ins_ref h.at_, c.cls, c.nq, rfl, k⟩
/-- the files as if all were done: a new dict -/
def sp_asd (C : Addr) : Sp3 := fun ds G Q => ∃ p f q fs dl, ds = [.ref p] ∧ DiskAt C p f q fs dl G ∧ fs.length + dl.length < 500 ∧ SmD dl ∧ ∀ r G', G r = none → G' r = some (.dic (fsD (seenF fs dl))) → (∀ b, b ≠ r → G' b = G b) → Q (.ref r) G'
theorem p_as_done (c : DkC K C) (ds : List D) (G : Gp) (Q : K3) (h : sp_asd C ds G Q) : t_Disk_as_done K sp_chg sp_most (D0 Q) (start3 N_Disk_as_done ds) G := by
  obtain ⟨p, f, q, fs, dl, rfl, hd, hl, hs, k⟩ := h
  simp only [t_Disk_as_done, N_Disk_as_done, ss_forP, u_lListRg, u_sRet, u_sRetN, ss_if, ss_asg, ss_drop, ss_ret, ss_retN, ss_next, ss_never, ss_break, ss_cont, ss_seq, ss_par, ss_aug, ss_gh, ss_fld, u_sIf, u_sNever, u_sNext, u_sDrop, u_sAsg, u_sPar, u_sAug, u_sGh, u_sBreak, u_sCont, u_lOp, u_lC, u_lVar, u_lTest, u_lNil, u_lCons, u_lAnd, u_lOr, u_lNot, u_lAndV, u_lOrV, u_lNotV, u_lIf, u_lChain, u_lTup, u_lLst, u_lLstG, u_lCB, u_lCall, u_lIsi, u_lIsi2, u_lSl, u_lNoPart, u_lPart, u_lNeg, u_lJoin, u_lSplit, u_lWords, u_gName3, u_gNil3, u_gCons3, u_gTup3, u_gStar3, u_gSub3, u_iLst3, u_iTup3, u_iStr3, u_iRg1, u_iRg2, u_iEnum3, u_iZip3, u_iZipT3, u_iZipS3, u_tYes3, u_lFld, u_lMeth, u_lMake, u_lFrz, u_lLm, u_lDNew, u_lDGet2, u_lDSetd, u_lCallA, u_sFld3, u_lDIn, u_lDIx, u_lDPop1, u_gDSub, u_gFld3, u_iLive, u_iZipL, u_iEnumQ3, u_lMethE, u_sRaise1, u_sRaise0, ss_raise1, ss_raise0, start3, List.map, List.append, List.length, List.replicate, List.set, List.cons_append, List.nil_append, List.getElem?_cons_zero, List.getElem?_cons_succ]
  refine f_files c hd ?_
  simp only [rDCopy3, dic_ref hd.fl]
  intro r hr
  have nq : q ≠ r := fun e => by have := hd.qu; rw [e, hr] at this; cases this
  have np : p ≠ r := fun e => by have := hd.at_; rw [e, hr] at this; cases this
  have hd1 : DiskAt C p f q fs dl (gup G r (.dic (fsD fs))) := hd.keep (Kp.new hr) (by simp) (by simp) (by simp)
  refine f_queue c hd1 ?_
  rw [lst_ref hd1.qu]
  refine ⟨fun i τ G' => ∃ x, τ = [some (.ref p), some (.ref r), x] ∧ G' = gup G r (.dic (fsD (seenF fs (dl.take i)))), ⟨none, rfl, rfl⟩, ?_, ?_, ?_⟩
  · rintro i τ G' ⟨x, rfl, rfl⟩
    exact lst_ref (by rw [gup_ne nq]; exact hd.qu)
  · rintro i d τ G' hdi ⟨x, rfl, rfl⟩
    rw [List.getElem?_map] at hdi
    cases e : dl[i]? with
    | none => rw [e] at hdi; cases hdi
    | some d' =>
      rw [e] at hdi
      cases hdi
      have hm := List.mem_of_getElem? e
      simp only [u_lListRg, u_sRet, u_sRetN, ss_if, ss_asg, ss_drop, ss_ret, ss_retN, ss_next, ss_never, ss_break, ss_cont, ss_seq, ss_par, ss_aug, ss_gh, ss_fld, u_sIf, u_sNever, u_sNext, u_sDrop, u_sAsg, u_sPar, u_sAug, u_sGh, u_sBreak, u_sCont, u_lOp, u_lC, u_lVar, u_lTest, u_lNil, u_lCons, u_lAnd, u_lOr, u_lNot, u_lAndV, u_lOrV, u_lNotV, u_lIf, u_lChain, u_lTup, u_lLst, u_lLstG, u_lCB, u_lCall, u_lIsi, u_lIsi2, u_lSl, u_lNoPart, u_lPart, u_lNeg, u_lJoin, u_lSplit, u_lWords, u_gName3, u_gNil3, u_gCons3, u_gTup3, u_gStar3, u_gSub3, u_iLst3, u_iTup3, u_iStr3, u_iRg1, u_iRg2, u_iEnum3, u_iZip3, u_iZipT3, u_iZipS3, u_tYes3, u_lFld, u_lMeth, u_lMake, u_lFrz, u_lLm, u_lDNew, u_lDGet2, u_lDSetd, u_lCallA, u_sFld3, u_lDIn, u_lDIx, u_lDPop1, u_gDSub, u_gFld3, u_iLive, u_iZipL, u_iEnumQ3, u_lMethE, u_sRaise1, u_sRaise0, ss_raise1, ss_raise0, start3, List.map, List.append, List.length, List.replicate, List.set, List.cons_append, List.nil_append, List.getElem?_cons_zero, List.getElem?_cons_succ]
      refine ⟨d', rfl, hs d' hm, ?_⟩
      try dsimp only
      refine ⟨r, d', most d', _, rfl, gup_same, ?_, hs d' hm, ?_⟩
      · have := seen_len (dl.take i) fs
        have : (dl.take i).length ≤ dl.length := by rw [List.length_take]; omega
        omega
      · rw [gup_gup, ← seen_take fs dl i e]
        exact ⟨_, rfl, rfl⟩
  · rintro τ G' ⟨x, rfl, rfl⟩
    rw [List.length_map, List.take_length]
    exact k r _ hr gup_same fun b hb => gup_ne hb
/-! ### the methods -/
def sp_dinit (C : Addr) : Sp3 := fun ds G Q => ∃ p, ds = [.ref p] ∧ G p = some (.ins C []) ∧ ∀ f q G', G f = none → G q = none → DiskAt C p f q [] [] G' → Kp [p] G G' → Q .non G'
theorem p_dinit (c : DkC K C) (ds : List D) (G : Gp) (Q : K3) (h : sp_dinit C ds G Q) : t_Disk___init__ K (D0 Q) (start3 N_Disk___init__ ds) G := by
  obtain ⟨p, rfl, hp, k⟩ := h
  simp only [t_Disk___init__, N_Disk___init__, u_lListRg, u_sRet, u_sRetN, ss_if, ss_asg, ss_drop, ss_ret, ss_retN, ss_next, ss_never, ss_break, ss_cont, ss_seq, ss_par, ss_aug, ss_gh, ss_fld, u_sIf, u_sNever, u_sNext, u_sDrop, u_sAsg, u_sPar, u_sAug, u_sGh, u_sBreak, u_sCont, u_lOp, u_lC, u_lVar, u_lTest, u_lNil, u_lCons, u_lAnd, u_lOr, u_lNot, u_lAndV, u_lOrV, u_lNotV, u_lIf, u_lChain, u_lTup, u_lLst, u_lLstG, u_lCB, u_lCall, u_lIsi, u_lIsi2, u_lSl, u_lNoPart, u_lPart, u_lNeg, u_lJoin, u_lSplit, u_lWords, u_gName3, u_gNil3, u_gCons3, u_gTup3, u_gStar3, u_gSub3, u_iLst3, u_iTup3, u_iStr3, u_iRg1, u_iRg2, u_iEnum3, u_iZip3, u_iZipT3, u_iZipS3, u_tYes3, u_lFld, u_lMeth, u_lMake, u_lFrz, u_lLm, u_lDNew, u_lDGet2, u_lDSetd, u_lCallA, u_sFld3, u_lDIn, u_lDIx, u_lDPop1, u_gDSub, u_gFld3, u_iLive, u_iZipL, u_iEnumQ3, u_lMethE, u_sRaise1, u_sRaise0, ss_raise1, ss_raise0, start3, List.map, List.append, List.length, List.replicate, List.set, List.cons_append, List.nil_append, List.getElem?_cons_zero, List.getElem?_cons_succ]
  intro f hf
  have nf : p ≠ f := fun e => by rw [e, hf] at hp; cases hp
  simp only [gup_ne nf, hp]
  refine ⟨c.cls, c.nf, by show (0 : Nat) < 1000; decide, by decide, fun q hq => ?_⟩
  have nqp : q ≠ p := fun e => by rw [e, gup_same] at hq; cases hq
  have hq1 : gup G f (.dic []) q = none := by rwa [gup_ne nqp] at hq
  have nqf : q ≠ f := fun e => by rw [e, gup_same] at hq1; cases hq1
  have hq2 : G q = none := by rwa [gup_ne nqf] at hq1
  simp only [gup_ne (Ne.symm nqp), gup_same]
  refine ⟨c.cls, c.nq, by show (1 : Nat) < 1000; decide, k f q _ hf hq2 ⟨?_, ?_, ?_⟩ ?_⟩
  · rw [gup_same]; rfl
  · rw [gup_ne (Ne.symm nf), gup_ne (Ne.symm nqf), gup_ne (Ne.symm nf), gup_same]; rfl
  · rw [gup_ne nqp, gup_same]; rfl
  · intro b o hb e
    have n1 : b ≠ p := fun z => hb (by rw [z]; exact List.mem_singleton.mpr rfl)
    have n2 : b ≠ f := fun z => by rw [z, hf] at e; cases e
    have n3 : b ≠ q := fun z => by rw [z, hq2] at e; cases e
    rw [gup_ne n1, gup_ne n3, gup_ne n1, gup_ne n2]; exact e
def sp_write (C : Addr) : Sp3 := fun ds G Q => ∃ p f q fs dl n t, ds = [.ref p, .str n, .str t] ∧ DiskAt C p f q fs dl G ∧ dl.length < 500 ∧ n.length ≤ 4000 ∧ isNm n = true ∧ Q .non (gup G q (.lst ((dl ++ [Dd.wr n t]).map deD)))
theorem p_write (c : DkC K C) (ds : List D) (G : Gp) (Q : K3) (h : sp_write C ds G Q) : t_Disk_write K sp_name (D0 Q) (start3 N_Disk_write ds) G := by
  obtain ⟨p, f, q, fs, dl, n, t, rfl, hd, hl, hn, hi, k⟩ := h
  have hz : sizeLine = 2 ^ 24 := rfl
  simp only [t_Disk_write, N_Disk_write, u_lListRg, u_sRet, u_sRetN, ss_if, ss_asg, ss_drop, ss_ret, ss_retN, ss_next, ss_never, ss_break, ss_cont, ss_seq, ss_par, ss_aug, ss_gh, ss_fld, u_sIf, u_sNever, u_sNext, u_sDrop, u_sAsg, u_sPar, u_sAug, u_sGh, u_sBreak, u_sCont, u_lOp, u_lC, u_lVar, u_lTest, u_lNil, u_lCons, u_lAnd, u_lOr, u_lNot, u_lAndV, u_lOrV, u_lNotV, u_lIf, u_lChain, u_lTup, u_lLst, u_lLstG, u_lCB, u_lCall, u_lIsi, u_lIsi2, u_lSl, u_lNoPart, u_lPart, u_lNeg, u_lJoin, u_lSplit, u_lWords, u_gName3, u_gNil3, u_gCons3, u_gTup3, u_gStar3, u_gSub3, u_iLst3, u_iTup3, u_iStr3, u_iRg1, u_iRg2, u_iEnum3, u_iZip3, u_iZipT3, u_iZipS3, u_tYes3, u_lFld, u_lMeth, u_lMake, u_lFrz, u_lLm, u_lDNew, u_lDGet2, u_lDSetd, u_lCallA, u_sFld3, u_lDIn, u_lDIx, u_lDPop1, u_gDSub, u_gFld3, u_iLive, u_iZipL, u_iEnumQ3, u_lMethE, u_sRaise1, u_sRaise0, ss_raise1, ss_raise0, start3, List.map, List.append, List.length, List.replicate, List.set, List.cons_append, List.nil_append, List.getElem?_cons_zero, List.getElem?_cons_succ]
  refine ⟨.str n, rfl, .inl ⟨n, rfl, hn, ?_⟩⟩
  rw [hi]
  try dsimp only
  rw [Bool.not_true, if_neg Bool.false_ne_true]
  refine f_queue c hd ?_
  have e9 := hd.qu
  simp only [e9, rApp3]
  refine ⟨by decide, by rw [List.length_map]; omega, ?_⟩
  rw [List.map_append] at k
  exact k
def sp_erase (C : Addr) : Sp3 := fun ds G Q => ∃ p f q fs dl n, ds = [.ref p, .str n] ∧ DiskAt C p f q fs dl G ∧ fs.length + dl.length < 500 ∧ SmD dl ∧ n.length ≤ 4000 ∧ isNm n = true ∧ (getF (seenF fs dl) n).isSome = true ∧
  ∀ G', DiskAt C p f q fs (dl ++ [Dd.er n]) G' → Kp [q] G G' → Q .non G'
theorem p_erase (c : DkC K C) (ds : List D) (G : Gp) (Q : K3) (h : sp_erase C ds G Q) : t_Disk_erase K sp_name C (sp_asd C) (D0 Q) (start3 N_Disk_erase ds) G := by
  obtain ⟨p, f, q, fs, dl, n, rfl, hd, hl, hs, hn, hi, hg, k⟩ := h
  have hz : sizeLine = 2 ^ 24 := rfl
  simp only [t_Disk_erase, N_Disk_erase, u_lListRg, u_sRet, u_sRetN, ss_if, ss_asg, ss_drop, ss_ret, ss_retN, ss_next, ss_never, ss_break, ss_cont, ss_seq, ss_par, ss_aug, ss_gh, ss_fld, u_sIf, u_sNever, u_sNext, u_sDrop, u_sAsg, u_sPar, u_sAug, u_sGh, u_sBreak, u_sCont, u_lOp, u_lC, u_lVar, u_lTest, u_lNil, u_lCons, u_lAnd, u_lOr, u_lNot, u_lAndV, u_lOrV, u_lNotV, u_lIf, u_lChain, u_lTup, u_lLst, u_lLstG, u_lCB, u_lCall, u_lIsi, u_lIsi2, u_lSl, u_lNoPart, u_lPart, u_lNeg, u_lJoin, u_lSplit, u_lWords, u_gName3, u_gNil3, u_gCons3, u_gTup3, u_gStar3, u_gSub3, u_iLst3, u_iTup3, u_iStr3, u_iRg1, u_iRg2, u_iEnum3, u_iZip3, u_iZipT3, u_iZipS3, u_tYes3, u_lFld, u_lMeth, u_lMake, u_lFrz, u_lLm, u_lDNew, u_lDGet2, u_lDSetd, u_lCallA, u_sFld3, u_lDIn, u_lDIx, u_lDPop1, u_gDSub, u_gFld3, u_iLive, u_iZipL, u_iEnumQ3, u_lMethE, u_sRaise1, u_sRaise0, ss_raise1, ss_raise0, start3, List.map, List.append, List.length, List.replicate, List.set, List.cons_append, List.nil_append, List.getElem?_cons_zero, List.getElem?_cons_succ]
  refine ⟨.str n, rfl, .inl ⟨n, rfl, hn, ?_⟩⟩
  rw [hi]
  try dsimp only
  rw [Bool.not_true, if_neg Bool.false_ne_true]
  refine ⟨_, ins_ref hd.at_, rfl, p, f, q, fs, dl, rfl, hd, hl, hs, fun r G1 hr h1 h2 => ?_⟩
  try dsimp only
  rw [dic_ref h1]
  simp only [keyD, val_fs, Bool.true_xor]
  have e : ((getF (seenF fs dl) n).map D.str).isSome = true := by rw [Option.isSome_map]; exact hg
  rw [e, Bool.not_true, if_neg Bool.false_ne_true]
  have kk : Kp [] G G1 := fun b o _ e => by rw [h2 b fun z => by rw [z, hr] at e; cases e]; exact e
  have hd1 := hd.keep kk (by simp) (by simp) (by simp)
  refine f_queue c hd1 ?_
  have e9 := hd1.qu
  simp only [e9, rApp3]
  refine ⟨by decide, by rw [List.length_map]; omega, ?_⟩
  refine k _ ⟨?_, ?_, ?_⟩ ((kk.mono (by simp)).trans Kp.wr (fun x hx => .inl hx))
  · rw [gup_ne (Ne.symm hd.pq)]; exact hd1.at_
  · rw [gup_ne (Ne.symm hd.fq)]; exact hd1.fl
  · rw [gup_same, List.map_append]; rfl
def sp_read (C : Addr) : Sp3 := fun ds G Q => ∃ p f q fs dl n t, ds = [.ref p, .str n] ∧ DiskAt C p f q fs dl G ∧ fs.length + dl.length < 500 ∧ SmD dl ∧ n.length ≤ 4000 ∧ isNm n = true ∧ getF (seenF fs dl) n = some t ∧ ∀ G', Kp [] G G' → Q (.str t) G'
theorem p_read (c : DkC K C) (ds : List D) (G : Gp) (Q : K3) (h : sp_read C ds G Q) : t_Disk_read sp_name C (sp_asd C) (D0 Q) (start3 N_Disk_read ds) G := by
  obtain ⟨p, f, q, fs, dl, n, t, rfl, hd, hl, hs, hn, hi, hg, k⟩ := h
  simp only [t_Disk_read, N_Disk_read, u_lListRg, u_sRet, u_sRetN, ss_if, ss_asg, ss_drop, ss_ret, ss_retN, ss_next, ss_never, ss_break, ss_cont, ss_seq, ss_par, ss_aug, ss_gh, ss_fld, u_sIf, u_sNever, u_sNext, u_sDrop, u_sAsg, u_sPar, u_sAug, u_sGh, u_sBreak, u_sCont, u_lOp, u_lC, u_lVar, u_lTest, u_lNil, u_lCons, u_lAnd, u_lOr, u_lNot, u_lAndV, u_lOrV, u_lNotV, u_lIf, u_lChain, u_lTup, u_lLst, u_lLstG, u_lCB, u_lCall, u_lIsi, u_lIsi2, u_lSl, u_lNoPart, u_lPart, u_lNeg, u_lJoin, u_lSplit, u_lWords, u_gName3, u_gNil3, u_gCons3, u_gTup3, u_gStar3, u_gSub3, u_iLst3, u_iTup3, u_iStr3, u_iRg1, u_iRg2, u_iEnum3, u_iZip3, u_iZipT3, u_iZipS3, u_tYes3, u_lFld, u_lMeth, u_lMake, u_lFrz, u_lLm, u_lDNew, u_lDGet2, u_lDSetd, u_lCallA, u_sFld3, u_lDIn, u_lDIx, u_lDPop1, u_gDSub, u_gFld3, u_iLive, u_iZipL, u_iEnumQ3, u_lMethE, u_sRaise1, u_sRaise0, ss_raise1, ss_raise0, start3, List.map, List.append, List.length, List.replicate, List.set, List.cons_append, List.nil_append, List.getElem?_cons_zero, List.getElem?_cons_succ]
  refine ⟨.str n, rfl, .inl ⟨n, rfl, hn, ?_⟩⟩
  rw [hi]
  try dsimp only
  rw [Bool.not_true, if_neg Bool.false_ne_true]
  refine ⟨_, ins_ref hd.at_, rfl, p, f, q, fs, dl, rfl, hd, hl, hs, fun r G1 hr h1 h2 => ?_⟩
  try dsimp only
  rw [dic_ref h1]
  simp only [keyD, val_fs, hg]
  exact ⟨.str t, rfl, k _ fun b o _ e => by rw [h2 b fun z => by rw [z, hr] at e; cases e]; exact e⟩
def sp_names (C : Addr) : Sp3 := fun ds G Q => ∃ p f q fs dl, ds = [.ref p] ∧ DiskAt C p f q fs dl G ∧ fs.length + dl.length < 500 ∧ SmD dl ∧ (seenF fs dl).length < 64 ∧ ∀ (ys : List Str) G', ys.Perm ((seenF fs dl).map (·.1)) → sortedS ys = true → Kp [] G G' → Q (.lst (ys.map .str)) G'
theorem p_names (c : DkC K C) (ds : List D) (G : Gp) (Q : K3) (h : sp_names C ds G Q) : t_Disk_names C (sp_asd C) (D0 Q) (start3 N_Disk_names ds) G := by
  obtain ⟨p, f, q, fs, dl, rfl, hd, hl, hs, h64, k⟩ := h
  simp only [t_Disk_names, N_Disk_names, u_lListRg, u_sRet, u_sRetN, ss_if, ss_asg, ss_drop, ss_ret, ss_retN, ss_next, ss_never, ss_break, ss_cont, ss_seq, ss_par, ss_aug, ss_gh, ss_fld, u_sIf, u_sNever, u_sNext, u_sDrop, u_sAsg, u_sPar, u_sAug, u_sGh, u_sBreak, u_sCont, u_lOp, u_lC, u_lVar, u_lTest, u_lNil, u_lCons, u_lAnd, u_lOr, u_lNot, u_lAndV, u_lOrV, u_lNotV, u_lIf, u_lChain, u_lTup, u_lLst, u_lLstG, u_lCB, u_lCall, u_lIsi, u_lIsi2, u_lSl, u_lNoPart, u_lPart, u_lNeg, u_lJoin, u_lSplit, u_lWords, u_gName3, u_gNil3, u_gCons3, u_gTup3, u_gStar3, u_gSub3, u_iLst3, u_iTup3, u_iStr3, u_iRg1, u_iRg2, u_iEnum3, u_iZip3, u_iZipT3, u_iZipS3, u_tYes3, u_lFld, u_lMeth, u_lMake, u_lFrz, u_lLm, u_lDNew, u_lDGet2, u_lDSetd, u_lCallA, u_sFld3, u_lDIn, u_lDIx, u_lDPop1, u_gDSub, u_gFld3, u_iLive, u_iZipL, u_iEnumQ3, u_lMethE, u_sRaise1, u_sRaise0, ss_raise1, ss_raise0, start3, List.map, List.append, List.length, List.replicate, List.set, List.cons_append, List.nil_append, List.getElem?_cons_zero, List.getElem?_cons_succ]
  refine ⟨_, ins_ref hd.at_, rfl, p, f, q, fs, dl, rfl, hd, hl, hs, fun r G1 hr h1 h2 => ?_⟩
  simp only [rSortD3, dic_ref h1]
  exact ⟨_, keys_fs _, by rw [List.length_map]; exact h64, fun ys h3 h4 => k ys G1 h3 h4 fun b o _ e => by rw [h2 b fun z => by rw [z, hr] at e; cases e]; exact e⟩
def sp_waitg (C : Addr) : Sp3 := fun ds G Q => ∃ p f q fs dl, ds = [.ref p] ∧ DiskAt C p f q fs dl G ∧ Q (.int (dl.length : Nat)) G
theorem len_ref {p : Addr} {l : List D} {G : Gp} {Q : K3} (h : G p = some (.lst l)) : rLen3 [.ref p] G Q = Q (.int l.length) G := by
  have e : lenD G (.ref p) = some l.length := by
    show (itemsOf G (.ref p)).map List.length = _
    have e1 : itemsOf G (.ref p) = some l := by
      show (match G p with | some (.lst ds) => some ds | _ => none) = some l
      rw [h]
    rw [e1]; rfl
  simp only [rLen3, e]
theorem p_waitg (c : DkC K C) (ds : List D) (G : Gp) (Q : K3) (h : sp_waitg C ds G Q) : t_Disk_waiting K (D0 Q) (start3 N_Disk_waiting ds) G := by
  obtain ⟨p, f, q, fs, dl, rfl, hd, k⟩ := h
  simp only [t_Disk_waiting, N_Disk_waiting, u_lListRg, u_sRet, u_sRetN, ss_if, ss_asg, ss_drop, ss_ret, ss_retN, ss_next, ss_never, ss_break, ss_cont, ss_seq, ss_par, ss_aug, ss_gh, ss_fld, u_sIf, u_sNever, u_sNext, u_sDrop, u_sAsg, u_sPar, u_sAug, u_sGh, u_sBreak, u_sCont, u_lOp, u_lC, u_lVar, u_lTest, u_lNil, u_lCons, u_lAnd, u_lOr, u_lNot, u_lAndV, u_lOrV, u_lNotV, u_lIf, u_lChain, u_lTup, u_lLst, u_lLstG, u_lCB, u_lCall, u_lIsi, u_lIsi2, u_lSl, u_lNoPart, u_lPart, u_lNeg, u_lJoin, u_lSplit, u_lWords, u_gName3, u_gNil3, u_gCons3, u_gTup3, u_gStar3, u_gSub3, u_iLst3, u_iTup3, u_iStr3, u_iRg1, u_iRg2, u_iEnum3, u_iZip3, u_iZipT3, u_iZipS3, u_tYes3, u_lFld, u_lMeth, u_lMake, u_lFrz, u_lLm, u_lDNew, u_lDGet2, u_lDSetd, u_lCallA, u_sFld3, u_lDIn, u_lDIx, u_lDPop1, u_gDSub, u_gFld3, u_iLive, u_iZipL, u_iEnumQ3, u_lMethE, u_sRaise1, u_sRaise0, ss_raise1, ss_raise0, start3, List.map, List.append, List.length, List.replicate, List.set, List.cons_append, List.nil_append, List.getElem?_cons_zero, List.getElem?_cons_succ]
  refine f_queue c hd ?_
  rw [len_ref hd.qu, List.length_map]
  exact k
def sp_flush (C : Addr) : Sp3 := fun ds G Q => ∃ p f q fs dl, ds = [.ref p] ∧ DiskAt C p f q fs dl G ∧ fs.length + dl.length < 500 ∧ SmD dl ∧ ∀ f' q' G', G f' = none → G q' = none → DiskAt C p f' q' (seenF fs dl) [] G' → Kp [p] G G' → Q .non G'
theorem p_flush (c : DkC K C) (ds : List D) (G : Gp) (Q : K3) (h : sp_flush C ds G Q) : t_Disk_flush K C (sp_asd C) (D0 Q) (start3 N_Disk_flush ds) G := by
  obtain ⟨p, f, q, fs, dl, rfl, hd, hl, hs, k⟩ := h
  simp only [t_Disk_flush, N_Disk_flush, u_lListRg, u_sRet, u_sRetN, ss_if, ss_asg, ss_drop, ss_ret, ss_retN, ss_next, ss_never, ss_break, ss_cont, ss_seq, ss_par, ss_aug, ss_gh, ss_fld, u_sIf, u_sNever, u_sNext, u_sDrop, u_sAsg, u_sPar, u_sAug, u_sGh, u_sBreak, u_sCont, u_lOp, u_lC, u_lVar, u_lTest, u_lNil, u_lCons, u_lAnd, u_lOr, u_lNot, u_lAndV, u_lOrV, u_lNotV, u_lIf, u_lChain, u_lTup, u_lLst, u_lLstG, u_lCB, u_lCall, u_lIsi, u_lIsi2, u_lSl, u_lNoPart, u_lPart, u_lNeg, u_lJoin, u_lSplit, u_lWords, u_gName3, u_gNil3, u_gCons3, u_gTup3, u_gStar3, u_gSub3, u_iLst3, u_iTup3, u_iStr3, u_iRg1, u_iRg2, u_iEnum3, u_iZip3, u_iZipT3, u_iZipS3, u_tYes3, u_lFld, u_lMeth, u_lMake, u_lFrz, u_lLm, u_lDNew, u_lDGet2, u_lDSetd, u_lCallA, u_sFld3, u_lDIn, u_lDIx, u_lDPop1, u_gDSub, u_gFld3, u_iLive, u_iZipL, u_iEnumQ3, u_lMethE, u_sRaise1, u_sRaise0, ss_raise1, ss_raise0, start3, List.map, List.append, List.length, List.replicate, List.set, List.cons_append, List.nil_append, List.getElem?_cons_zero, List.getElem?_cons_succ]
  refine ⟨_, ins_ref hd.at_, rfl, p, f, q, fs, dl, rfl, hd, hl, hs, fun r G1 hr h1 h2 => ?_⟩
  have kk : Kp [] G G1 := fun b o _ e => by rw [h2 b fun z => by rw [z, hr] at e; cases e]; exact e
  have hd1 := hd.keep kk (by simp) (by simp) (by simp)
  refine ⟨by decide, fun q' hq' => ⟨by decide, ?_⟩⟩
  have hqr : q' ≠ r := fun e => by rw [e, h1] at hq'; cases hq'
  have hq2 : G q' = none := by rw [← h2 q' hqr]; exact hq'
  have hqp : q' ≠ p := fun e => by rw [e, hd1.at_] at hq'; cases hq'
  have hrp : r ≠ p := fun e => by rw [e, hd.at_] at hr; cases hr
  simp only [gup_ne (Ne.symm hqp), hd1.at_, gup_same]
  refine ⟨trivial, c.cls, c.nf, by show (2 : Nat) < 1000; decide, c.cls, c.nq, by show (2 : Nat) < 1000; decide, k r q' _ hr hq2 ⟨?_, ?_, ?_⟩ ?_⟩
  · rw [gup_same]; rfl
  · rw [gup_ne hrp, gup_ne hrp, gup_ne (Ne.symm hqr)]; exact h1
  · rw [gup_ne hqp, gup_ne hqp, gup_same]; rfl
  · intro b o hb e
    have n1 : b ≠ p := fun z => hb (by rw [z]; exact List.mem_singleton.mpr rfl)
    have n3 : b ≠ q' := fun z => by rw [z, hq2] at e; cases e
    rw [gup_ne n1, gup_ne n1, gup_ne n3]; exact kk b o (by simp) e
def sp_twin (C : Addr) : Sp3 := fun ds G Q => ∃ p f q fs dl, ds = [.ref p] ∧ DiskAt C p f q fs dl G ∧ ∀ p' f' q' G', G p' = none → G f' = none → G q' = none → DiskAt C p' f' q' fs dl G' → Kp [] G G' → Q (.ref p') G'
theorem p_twin (c : DkC K C) (ds : List D) (G : Gp) (Q : K3) (h : sp_twin C ds G Q) : t_Disk_twin K C (sp_dinit C) [] (D0 Q) (start3 N_Disk_twin ds) G := by
  obtain ⟨p, f, q, fs, dl, rfl, hd, k⟩ := h
  simp only [t_Disk_twin, N_Disk_twin, u_lListRg, u_sRet, u_sRetN, ss_if, ss_asg, ss_drop, ss_ret, ss_retN, ss_next, ss_never, ss_break, ss_cont, ss_seq, ss_par, ss_aug, ss_gh, ss_fld, u_sIf, u_sNever, u_sNext, u_sDrop, u_sAsg, u_sPar, u_sAug, u_sGh, u_sBreak, u_sCont, u_lOp, u_lC, u_lVar, u_lTest, u_lNil, u_lCons, u_lAnd, u_lOr, u_lNot, u_lAndV, u_lOrV, u_lNotV, u_lIf, u_lChain, u_lTup, u_lLst, u_lLstG, u_lCB, u_lCall, u_lIsi, u_lIsi2, u_lSl, u_lNoPart, u_lPart, u_lNeg, u_lJoin, u_lSplit, u_lWords, u_gName3, u_gNil3, u_gCons3, u_gTup3, u_gStar3, u_gSub3, u_iLst3, u_iTup3, u_iStr3, u_iRg1, u_iRg2, u_iEnum3, u_iZip3, u_iZipT3, u_iZipS3, u_tYes3, u_lFld, u_lMeth, u_lMake, u_lFrz, u_lLm, u_lDNew, u_lDGet2, u_lDSetd, u_lCallA, u_sFld3, u_lDIn, u_lDIx, u_lDPop1, u_gDSub, u_gFld3, u_iLive, u_iZipL, u_iEnumQ3, u_lMethE, u_sRaise1, u_sRaise0, ss_raise1, ss_raise0, start3, List.map, List.append, List.length, List.replicate, List.set, List.cons_append, List.nil_append, List.getElem?_cons_zero, List.getElem?_cons_succ]
  intro p' hp'
  refine ⟨p', rfl, gup_same, fun f0 q0 G1 hf0 hq0 hd0 k0 => ⟨rfl, ?_⟩⟩
  have k1 : Kp [] G G1 := (Kp.new hp').trans (k0.mono (ys := [p']) fun x h => h) (fun x hx => .inr (by rw [List.mem_singleton.mp hx]; exact hp'))
  have hd1 := hd.keep k1 (by simp) (by simp) (by simp)
  refine f_files c hd1 ?_
  simp only [rDCopy3, dic_ref hd1.fl]
  intro f' hf'
  have k2 : Kp [] G1 (gup G1 f' (.dic (fsD fs))) := Kp.new hf'
  have hd2 := hd1.keep k2 (by simp) (by simp) (by simp)
  refine f_queue c hd2 ?_
  have eq1 : itemsOf (gup G1 f' (.dic (fsD fs))) (.ref q) = some (dl.map deD) := by
    show (match gup G1 f' (.dic (fsD fs)) q with | some (.lst ds) => some ds | _ => none) = _
    rw [hd2.qu]
  simp only [rListG3, eq1]
  intro q' hq'
  refine ⟨by decide, ?_⟩
  have hp1 : G1 p' = some (.ins C [("files", .ref f0), ("queue", .ref q0)]) := hd0.at_
  have nfp : f' ≠ p' := fun e => by rw [e, hp1] at hf'; cases hf'
  have hp2 : gup G1 f' (.dic (fsD fs)) p' = some (.ins C [("files", .ref f0), ("queue", .ref q0)]) := by rw [gup_ne (Ne.symm nfp)]; exact hp1
  have nqp : q' ≠ p' := fun e => by rw [e, hp2] at hq'; cases hq'
  have nqf : q' ≠ f' := fun e => by rw [e, gup_same] at hq'; cases hq'
  have gN : ∀ {x : Addr}, G1 x = none → G x = none := fun {x} hx => by
    cases e : G x with
    | none => rfl
    | some o => have := k1 x o (by simp) e; rw [hx] at this; cases this
  have hq2 : G1 q' = none := by rw [← gup_ne (G := G1) (o := .dic (fsD fs)) nqf]; exact hq'
  simp only [gup_ne (Ne.symm nqp), hp2, gup_same]
  refine ⟨trivial, c.cls, c.nf, by show (2 : Nat) < 1000; decide, c.cls, c.nq, by show (2 : Nat) < 1000; decide, k p' f' q' _ hp' (gN hf') (gN hq2) ⟨?_, ?_, ?_⟩ ?_⟩
  · rw [gup_same]; rfl
  · rw [gup_ne nfp, gup_ne nfp, gup_ne (Ne.symm nqf), gup_same]
  · rw [gup_ne nqp, gup_ne nqp, gup_same]
  · intro b o _ e
    have e1 := k1 b o (by simp) e
    have n1 : b ≠ p' := fun z => by rw [z, hp'] at e; cases e
    have n2 : b ≠ f' := fun z => by rw [z, hf'] at e1; cases e1
    have n3 : b ≠ q' := fun z => by rw [z, hq2] at e1; cases e1
    rw [gup_ne n1, gup_ne n1, gup_ne n3, gup_ne n2]; exact e1
end
end K69
end

section
set_option Elab.async false
set_option linter.all false
set_option maxRecDepth 100000
set_option maxHeartbeats 1000000
namespace K69
open PySem PySem.Spec PyProof.Rows L2 L3 PP PT
/-! ### picks -/
def okP (dl : List Dd) (i : Nat) (d : D) : Bool := match dl[i]?, d with
  | some e, .int n => decide (0 ≤ n) && decide (n ≤ most e)
  | _, _ => false
def wrongP (dl : List Dd) (ps : List D) : Option Nat := (List.range ps.length).find? fun i => !okP dl i (ps.getD i .non)
theorem wrong_none {dl : List Dd} {ps : List D} : wrongP dl ps = none ↔ ∀ i, i < ps.length → okP dl i (ps.getD i .non) = true := by
  unfold wrongP
  rw [List.find?_eq_none]
  simp
theorem wrong_some {dl : List Dd} {ps : List D} {i : Nat} (hi : i < ps.length) (h : okP dl i (ps.getD i .non) = false) (hb : ∀ j, j < i → okP dl j (ps.getD j .non) = true) : wrongP dl ps = some i := by
  unfold wrongP
  rw [List.find?_range_eq_some]
  refine ⟨by simp only [h]; rfl, List.mem_range.mpr hi, fun j hj => ?_⟩
  simp only [hb j hj]; rfl
/-- what may stand in a list of picks -/
inductive PkOk : D → Prop where
  | int (n : Int) : PkOk (.int n)
  | odd (d : D) (k : Kd) (h : ∀ G, kdOf G d = some k) (hn : ∀ n, d ≠ .int n) (hb : isTy .int k = false ∨ isTy .bool k = true) : PkOk d
theorem getD_of {ps : List D} {i : Nat} {d : D} (h : ps[i]? = some d) : ps.getD i .non = d := by rw [List.getD_eq_getElem?_getD, h]; rfl
theorem enQ {pd : D} {ps : List D} (h : pd = .lst ps ∨ pd = .tup ps) {i : Nat} {τ : T3} {G : Gp} {R : List D → Gp → Prop} (hτ : τ[i]? = some (some pd)) (hR : R (enL ps) G) : iEnumQ3 (lVar i) τ G R := by
  unfold iEnumQ3 lVar
  rw [hτ]
  rcases h with rfl | rfl
  · exact hR
  · exact hR
/-- look_picks, where all is well or not -/
def spe_look (C N : Addr) : SpE := fun ds G Q w => ∃ p f q fs dl pd, ds = [.ref p, pd] ∧ DiskAt C p f q fs dl G ∧ SmD dl ∧ dl.length < 500 ∧
  ((∃ ps, (pd = .lst ps ∨ pd = .tup ps) ∧ (∀ d ∈ ps, PkOk d) ∧ (wrongP dl ps = none → Q .non G) ∧ ∀ i : Nat, wrongP dl ps = some i → ∀ dd, G dd = none → w N (some dd) (gup G dd (.xd [("at", .int (i : Int))]))) ∨
   (∃ k, kdOf G pd = some k ∧ isTy .list k = false ∧ isTy .tuple k = false ∧ ∀ dd, G dd = none → w N (some dd) (gup G dd (.xd [("at", .non)]))))
section
variable {K : PySem.W.Frag} {C N p f q : Addr} {fs : FS} {dl : List Dd} {G : Gp} {Q : K3}
theorem p_look_e (c : DkC K C) (ds : List D) (G : Gp) (Q : K3) (w : WE3) (h : spe_look C N ds G Q fun C d G' => ∀ τ, w C d τ G') : te_Disk_look_picks K sp_most N w (D0 Q) (start3 N_Disk_look_picks ds) G := by
  obtain ⟨p, f, q, fs, dl, pd, rfl, hd, hs, hl, h⟩ := h
  have hz : sizeLine = 2 ^ 24 := rfl
  simp only [te_Disk_look_picks, N_Disk_look_picks, ss_raise1, u_sRaise1, u_sFor, u_lListRg, u_sRet, u_sRetN, ss_if, ss_asg, ss_drop, ss_ret, ss_retN, ss_next, ss_never, ss_break, ss_cont, ss_seq, ss_par, ss_aug, ss_gh, ss_fld, u_sIf, u_sNever, u_sNext, u_sDrop, u_sAsg, u_sPar, u_sAug, u_sGh, u_sBreak, u_sCont, u_lOp, u_lC, u_lVar, u_lTest, u_lNil, u_lCons, u_lAnd, u_lOr, u_lNot, u_lAndV, u_lOrV, u_lNotV, u_lIf, u_lChain, u_lTup, u_lLst, u_lLstG, u_lCB, u_lCall, u_lIsi, u_lIsi2, u_lSl, u_lNoPart, u_lPart, u_lNeg, u_lJoin, u_lSplit, u_lWords, u_gName3, u_gNil3, u_gCons3, u_gTup3, u_gStar3, u_gSub3, u_iLst3, u_iTup3, u_iStr3, u_iRg1, u_iRg2, u_iEnum3, u_iZip3, u_iZipT3, u_iZipS3, u_tYes3, u_lFld, u_lMeth, u_lMake, u_lFrz, u_lLm, u_lDNew, u_lDGet2, u_lDSetd, u_lCallA, u_sFld3, u_lDIn, u_lDIx, u_lDPop1, u_gDSub, u_gFld3, u_iLive, u_iZipL, u_lMethE, u_sRaise1, u_sRaise0, ss_raise1, ss_raise0, start3, List.map, List.append, List.length, List.replicate, List.set, List.cons_append, List.nil_append, List.getElem?_cons_zero, List.getElem?_cons_succ]
  rcases h with ⟨ps, hpd, hpk, k0, k1⟩ | ⟨k, hk, h1, h2, h3⟩
  · have hk : ∃ k, kdOf G pd = some k ∧ (isTy .list k || isTy .tuple k) = true := by
      rcases hpd with rfl | rfl
      · exact ⟨.list, rfl, rfl⟩
      · exact ⟨.tuple, rfl, rfl⟩
    obtain ⟨k, hk, e⟩ := hk
    rw [hk]
    try dsimp only
    rw [e, Bool.not_true, if_neg Bool.false_ne_true]
    refine enQ hpd rfl ?_
    refine ⟨fun i τ G' => G' = G ∧ (∃ x y, τ = [some (.ref p), some pd, x, y]) ∧ ∀ j, j < i → okP dl j (ps.getD j .non) = true, ⟨rfl, ⟨_, _, rfl⟩, fun j hj => absurd hj (Nat.not_lt_zero j)⟩, ?_, ?_⟩
    · rintro i d τ G' hdi ⟨rfl, ⟨x, y, rfl⟩, hb⟩
      have hi : i < ps.length := by have := (List.getElem?_eq_some_iff.mp hdi).1; rwa [enL_len] at this
      have hg : ps[i]? = some ps[i] := by simp [hi]
      have hgd := getD_of hg
      rw [enL_get hg] at hdi
      cases hdi
      have hpk1 := hpk _ (List.getElem_mem hi)
      have bad : okP dl i ps[i] = false → ∀ dd, G' dd = none → ∀ τ, w N (some dd) τ (gup G' dd (.xd [("at", .int (i : Int))])) := fun h => k1 i (wrong_some hi (by rw [hgd]; exact h) hb)
      have good : okP dl i ps[i] = true → ∀ j, j < i + 1 → okP dl j (ps.getD j .non) = true := fun h j hj => by
        rcases Nat.lt_succ_iff_lt_or_eq.mp hj with z | z
        · exact hb j z
        · rw [z, hgd]; exact h
      simp only [u_lListRg, u_sRet, u_sRetN, ss_if, ss_asg, ss_drop, ss_ret, ss_retN, ss_next, ss_never, ss_break, ss_cont, ss_seq, ss_par, ss_aug, ss_gh, ss_fld, u_sIf, u_sNever, u_sNext, u_sDrop, u_sAsg, u_sPar, u_sAug, u_sGh, u_sBreak, u_sCont, u_lOp, u_lC, u_lVar, u_lTest, u_lNil, u_lCons, u_lAnd, u_lOr, u_lNot, u_lAndV, u_lOrV, u_lNotV, u_lIf, u_lChain, u_lTup, u_lLst, u_lLstG, u_lCB, u_lCall, u_lIsi, u_lIsi2, u_lSl, u_lNoPart, u_lPart, u_lNeg, u_lJoin, u_lSplit, u_lWords, u_gName3, u_gNil3, u_gCons3, u_gTup3, u_gStar3, u_gSub3, u_iLst3, u_iTup3, u_iStr3, u_iRg1, u_iRg2, u_iEnum3, u_iZip3, u_iZipT3, u_iZipS3, u_tYes3, u_lFld, u_lMeth, u_lMake, u_lFrz, u_lLm, u_lDNew, u_lDGet2, u_lDSetd, u_lCallA, u_sFld3, u_lDIn, u_lDIx, u_lDPop1, u_gDSub, u_gFld3, u_iLive, u_iZipL, u_iEnumQ3, u_lMethE, u_sRaise1, u_sRaise0, ss_raise1, ss_raise0, start3, List.map, List.append, List.length, List.replicate, List.set, List.cons_append, List.nil_append, List.getElem?_cons_zero, List.getElem?_cons_succ, itemsOf]
      refine ⟨trivial, f_queue c hd ?_⟩
      rw [len_ref hd.qu, List.length_map, q_ge]
      try dsimp only
      by_cases hlt : i < dl.length
      · rw [decide_eq_false (show ¬ ((i : Int) ≥ (dl.length : Nat)) by omega), if_neg Bool.false_ne_true]
        obtain ⟨e, he⟩ : ∃ e, dl[i]? = some e := ⟨_, List.getElem?_eq_getElem hlt⟩
        have hm := List.mem_of_getElem? he
        revert hpk1 bad good
        generalize ps[i] = y
        intro hpk1 bad good
        cases hpk1 with
        | int n =>
          have ho : okP dl i (.int n) = (decide (0 ≤ n) && decide (n ≤ most e)) := by simp only [okP, he]
          simp only [kdOf, isTy, Bool.not_true, Bool.false_eq_true, if_false]
          rw [q_le]
          try dsimp only
          by_cases h0 : 0 ≤ n
          · rw [decide_eq_true h0, if_pos rfl]
            refine f_queue c hd ?_
            rw [q_rx hd.qu (i := i) (d := deD e) (by rw [List.getElem?_map, he]; rfl)]
            refine ⟨e, rfl, hs e hm, ?_⟩
            show rLe3 (.int n) (.int (most e)) _ _
            rw [q_le]
            try dsimp only
            by_cases h1 : n ≤ most e
            · rw [decide_eq_true h1, Bool.not_true, if_neg Bool.false_ne_true]
              exact ⟨rfl, ⟨_, _, rfl⟩, good (by rw [ho, decide_eq_true h0, decide_eq_true h1]; rfl)⟩
            · rw [decide_eq_false h1, Bool.not_false, if_pos rfl]
              exact fun dd hdd => bad (by rw [ho, decide_eq_false h1, Bool.and_false]) dd hdd _
          · rw [decide_eq_false h0, if_neg Bool.false_ne_true, Bool.not_false, if_pos rfl]
            exact fun dd hdd => bad (by rw [ho, decide_eq_false h0, Bool.false_and]) dd hdd _
        | odd y k hk hn hb =>
          have ho : okP dl i y = false := by
            unfold okP
            rw [he]
            cases y <;> first | rfl | exact absurd rfl (hn _)
          rw [hk]
          try dsimp only
          rcases hb with hb | hb
          · rw [hb, Bool.not_false, if_pos rfl]
            exact fun dd hdd => bad ho dd hdd _
          · rw [hb]
            split
            · exact fun dd hdd => bad ho dd hdd _
            · exact fun dd hdd => bad ho dd hdd _
      · rw [decide_eq_true (show (i : Int) ≥ (dl.length : Nat) by omega), if_pos rfl]
        refine fun dd hdd => bad ?_ dd hdd _
        unfold okP
        rw [List.getElem?_eq_none (by omega)]
    · rintro τ G' ⟨rfl, ⟨x, y, rfl⟩, hb⟩
      rw [enL_len] at hb
      exact k0 (wrong_none.mpr hb)
  · rw [hk]
    try dsimp only
    rw [h1, h2, Bool.or_false, Bool.not_false, if_pos rfl]
    exact fun dd hdd => h3 dd hdd _
/-- the numbers of picks -/
def intsP : List D → List Int
  | [] => []
  | .int n :: r => n :: intsP r
  | _ :: r => 0 :: intsP r
theorem ints_len : ∀ ps, (intsP ps).length = ps.length
  | [] => rfl
  | x :: r => by cases x <;> simp only [intsP, List.length_cons, ints_len r]
theorem ints_get : ∀ (ps : List D) (i : Nat) (n : Int), ps[i]? = some (.int n) → (intsP ps)[i]? = some n
  | [], i, n, h => by cases h
  | x :: r, 0, n, h => by cases h; rfl
  | x :: r, i + 1, n, h => by
    have ih := ints_get r i n (by simpa using h)
    cases x <;> simpa only [intsP, List.getElem?_cons_succ] using ih
def chosenF (dl : List Dd) (ps : List D) : List (Dd × Int) := dl.zip (intsP ps)
theorem ok_int {dl : List Dd} {i : Nat} {d : D} (h : okP dl i d = true) : ∃ n e, d = .int n ∧ dl[i]? = some e ∧ 0 ≤ n ∧ n ≤ most e := by
  unfold okP at h
  split at h
  · rename_i e n he
    rw [Bool.and_eq_true, decide_eq_true_eq, decide_eq_true_eq] at h
    exact ⟨n, e, rfl, he, h.1, h.2⟩
  · cases h
theorem done_len : ∀ (l : List (Dd × Int)) (fs : FS), (doneF fs l).length ≤ fs.length + l.length
  | [], fs => by show fs.length ≤ _; simp
  | x :: l, fs => by
    have e : doneF fs (x :: l) = doneF (stepP fs x) l := rfl
    rw [e]
    have := done_len l (stepP fs x)
    have : (stepP fs x).length ≤ fs.length + 1 := by
      unfold stepP
      split
      · exact step_len ..
      · omega
    simp only [List.length_cons]; omega
/-- crash, where all is well or not -/
def spe_crash (C N : Addr) : SpE := fun ds G Q w => ∃ p f q fs dl pd, ds = [.ref p, pd] ∧ DiskAt C p f q fs dl G ∧ SmD dl ∧ fs.length + dl.length < 500 ∧
  ((∃ ps, (pd = .lst ps ∨ pd = .tup ps) ∧ (∀ d ∈ ps, PkOk d) ∧ (wrongP dl ps = none → ∀ q' G', G q' = none → DiskAt C p f q' (doneF fs (chosenF dl ps)) [] G' → Kp [p, f] G G' → Q .non G') ∧ ∀ i : Nat, wrongP dl ps = some i → ∀ dd, G dd = none → w N (some dd) (gup G dd (.xd [("at", .int (i : Int))]))) ∨
   (∃ k, kdOf G pd = some k ∧ isTy .list k = false ∧ isTy .tuple k = false ∧ ∀ dd, G dd = none → w N (some dd) (gup G dd (.xd [("at", .non)]))))
theorem p_crash_e (c : DkC K C) (ds : List D) (G : Gp) (Q : K3) (w : WE3) (h : spe_crash C N ds G Q fun C d G' => ∀ τ, w C d τ G') : te_Disk_crash K sp_chg C (spe_look C N) [] w (D0 Q) (start3 N_Disk_crash ds) G := by
  obtain ⟨p, f, q, fs, dl, pd, rfl, hd, hs, hl, h⟩ := h
  have hz : sizeLine = 2 ^ 24 := rfl
  simp only [te_Disk_crash, N_Disk_crash, ss_for, u_sFor, u_lListRg, u_sRet, u_sRetN, ss_if, ss_asg, ss_drop, ss_ret, ss_retN, ss_next, ss_never, ss_break, ss_cont, ss_seq, ss_par, ss_aug, ss_gh, ss_fld, u_sIf, u_sNever, u_sNext, u_sDrop, u_sAsg, u_sPar, u_sAug, u_sGh, u_sBreak, u_sCont, u_lOp, u_lC, u_lVar, u_lTest, u_lNil, u_lCons, u_lAnd, u_lOr, u_lNot, u_lAndV, u_lOrV, u_lNotV, u_lIf, u_lChain, u_lTup, u_lLst, u_lLstG, u_lCB, u_lCall, u_lIsi, u_lIsi2, u_lSl, u_lNoPart, u_lPart, u_lNeg, u_lJoin, u_lSplit, u_lWords, u_gName3, u_gNil3, u_gCons3, u_gTup3, u_gStar3, u_gSub3, u_iLst3, u_iTup3, u_iStr3, u_iRg1, u_iRg2, u_iEnum3, u_iZip3, u_iZipT3, u_iZipS3, u_tYes3, u_lFld, u_lMeth, u_lMake, u_lFrz, u_lLm, u_lDNew, u_lDGet2, u_lDSetd, u_lCallA, u_sFld3, u_lDIn, u_lDIx, u_lDPop1, u_gDSub, u_gFld3, u_iLive, u_iZipL, u_lMethE, u_sRaise1, u_sRaise0, ss_raise1, ss_raise0, start3, List.map, List.append, List.length, List.replicate, List.set, List.cons_append, List.nil_append, List.getElem?_cons_zero, List.getElem?_cons_succ]
  refine ⟨_, ins_ref hd.at_, rfl, p, f, q, fs, dl, pd, rfl, hd, hs, by omega, ?_⟩
  rcases h with ⟨ps, hpd, hpk, k0, k1⟩ | ⟨k, hk, h1, h2, h3⟩
  · refine .inl ⟨ps, hpd, hpk, fun hw => ?_, fun i hi dd hdd => k1 i hi dd hdd _⟩
    have hall := wrong_none.mp hw
    have h0 := k0 hw
    try dsimp only
    refine enQ hpd rfl ?_
    refine ⟨fun i τ G' => (∃ x y, τ = [some (.ref p), some pd, x, y]) ∧ G' = gup G f (.dic (fsD (doneF fs ((chosenF dl ps).take i)))), ⟨⟨_, _, rfl⟩, ?_⟩, ?_, ?_⟩
    · exact (gup_self hd.fl).symm
    · rintro i d τ G' hdi ⟨⟨x, y, rfl⟩, rfl⟩
      have hi : i < ps.length := by have := (List.getElem?_eq_some_iff.mp hdi).1; rwa [enL_len] at this
      have hg : ps[i]? = some ps[i] := by simp [hi]
      have hok := hall i hi
      rw [getD_of hg] at hok
      rw [enL_get hg] at hdi
      cases hdi
      obtain ⟨n, e, en, he, hn0, hn1⟩ := ok_int hok
      rw [en] at hg ⊢
      have hc : (chosenF dl ps)[i]? = some (e, n) := by
        unfold chosenF
        rw [List.getElem?_zip_eq_some]
        exact ⟨he, ints_get ps i n hg⟩
      have hm := List.mem_of_getElem? he
      simp only [u_lListRg, u_sRet, u_sRetN, ss_if, ss_asg, ss_drop, ss_ret, ss_retN, ss_next, ss_never, ss_break, ss_cont, ss_seq, ss_par, ss_aug, ss_gh, ss_fld, u_sIf, u_sNever, u_sNext, u_sDrop, u_sAsg, u_sPar, u_sAug, u_sGh, u_sBreak, u_sCont, u_lOp, u_lC, u_lVar, u_lTest, u_lNil, u_lCons, u_lAnd, u_lOr, u_lNot, u_lAndV, u_lOrV, u_lNotV, u_lIf, u_lChain, u_lTup, u_lLst, u_lLstG, u_lCB, u_lCall, u_lIsi, u_lIsi2, u_lSl, u_lNoPart, u_lPart, u_lNeg, u_lJoin, u_lSplit, u_lWords, u_gName3, u_gNil3, u_gCons3, u_gTup3, u_gStar3, u_gSub3, u_iLst3, u_iTup3, u_iStr3, u_iRg1, u_iRg2, u_iEnum3, u_iZip3, u_iZipT3, u_iZipS3, u_tYes3, u_lFld, u_lMeth, u_lMake, u_lFrz, u_lLm, u_lDNew, u_lDGet2, u_lDSetd, u_lCallA, u_sFld3, u_lDIn, u_lDIx, u_lDPop1, u_gDSub, u_gFld3, u_iLive, u_iZipL, u_lMethE, u_sRaise1, u_sRaise0, ss_raise1, ss_raise0, start3, List.map, List.append, List.length, List.replicate, List.set, List.cons_append, List.nil_append, List.getElem?_cons_zero, List.getElem?_cons_succ, itemsOf]
      refine ⟨trivial, ?_⟩
      rw [q_gt]
      try dsimp only
      have hst := done_take fs (chosenF dl ps) i hc
      unfold stepP at hst
      by_cases hp : n > 0
      · rw [decide_eq_true hp, if_pos rfl]
        rw [if_pos hp] at hst
        have hd1 : DiskAt C p f q (doneF fs ((chosenF dl ps).take i)) dl (gup G f (.dic (fsD (doneF fs ((chosenF dl ps).take i))))) := ⟨by rw [gup_ne (Ne.symm hd.pf)]; exact hd.at_, gup_same, by rw [gup_ne hd.fq]; exact hd.qu⟩
        refine f_files c hd1 (f_queue c hd1 ?_)
        rw [q_rx hd1.qu (i := i) (d := deD e) (by rw [List.getElem?_map, he]; rfl)]
        refine ⟨f, e, n, _, rfl, gup_same, ?_, hs e hm, ?_⟩
        · have h1 := done_len ((chosenF dl ps).take i) fs
          have h2 : ((chosenF dl ps).take i).length ≤ dl.length := by
            rw [List.length_take]
            unfold chosenF
            rw [List.length_zip]; omega
          omega
        · refine ⟨⟨_, _, rfl⟩, ?_⟩
          rw [gup_gup, hst]
      · rw [decide_eq_false hp, if_neg Bool.false_ne_true]
        rw [if_neg hp] at hst
        refine ⟨⟨_, _, rfl⟩, ?_⟩
        rw [hst]
    · rintro τ G' ⟨⟨x, y, rfl⟩, rfl⟩
      rw [enL_len]
      have et : (chosenF dl ps).take ps.length = chosenF dl ps := by
        refine List.take_of_length_le ?_
        unfold chosenF
        rw [List.length_zip, ints_len]; omega
      rw [et]
      simp only [u_lListRg, u_sRet, u_sRetN, ss_if, ss_asg, ss_drop, ss_ret, ss_retN, ss_next, ss_never, ss_break, ss_cont, ss_seq, ss_par, ss_aug, ss_gh, ss_fld, u_sIf, u_sNever, u_sNext, u_sDrop, u_sAsg, u_sPar, u_sAug, u_sGh, u_sBreak, u_sCont, u_lOp, u_lC, u_lVar, u_lTest, u_lNil, u_lCons, u_lAnd, u_lOr, u_lNot, u_lAndV, u_lOrV, u_lNotV, u_lIf, u_lChain, u_lTup, u_lLst, u_lLstG, u_lCB, u_lCall, u_lIsi, u_lIsi2, u_lSl, u_lNoPart, u_lPart, u_lNeg, u_lJoin, u_lSplit, u_lWords, u_gName3, u_gNil3, u_gCons3, u_gTup3, u_gStar3, u_gSub3, u_iLst3, u_iTup3, u_iStr3, u_iRg1, u_iRg2, u_iEnum3, u_iZip3, u_iZipT3, u_iZipS3, u_tYes3, u_lFld, u_lMeth, u_lMake, u_lFrz, u_lLm, u_lDNew, u_lDGet2, u_lDSetd, u_lCallA, u_sFld3, u_lDIn, u_lDIx, u_lDPop1, u_gDSub, u_gFld3, u_iLive, u_iZipL, u_lMethE, u_sRaise1, u_sRaise0, ss_raise1, ss_raise0, start3, List.map, List.append, List.length, List.replicate, List.set, List.cons_append, List.nil_append, List.getElem?_cons_zero, List.getElem?_cons_succ]
      have hd1 : DiskAt C p f q (doneF fs (chosenF dl ps)) dl (gup G f (.dic (fsD (doneF fs (chosenF dl ps))))) := ⟨by rw [gup_ne (Ne.symm hd.pf)]; exact hd.at_, gup_same, by rw [gup_ne hd.fq]; exact hd.qu⟩
      refine ⟨by decide, fun q' hq' => ?_⟩
      have hq2 : G q' = none := by
        cases e : G q' with
        | none => rfl
        | some o =>
          by_cases ef : q' = f
          · rw [ef, gup_same] at hq'; cases hq'
          · rw [gup_ne ef, e] at hq'; cases hq'
      have hqp : q' ≠ p := fun e => by rw [e, hd1.at_] at hq'; cases hq'
      have hqf : q' ≠ f := fun e => by rw [e, hd1.fl] at hq'; cases hq'
      simp only [gup_ne (Ne.symm hqp), hd1.at_]
      refine ⟨c.cls, c.nq, by show (2 : Nat) < 1000; decide, h0 q' _ hq2 ⟨?_, ?_, ?_⟩ ?_⟩
      · rw [gup_same]; rfl
      · rw [gup_ne hd.pf, gup_ne (Ne.symm hqf), gup_same]
      · rw [gup_ne hqp, gup_same]; rfl
      · intro b o hb e
        have n1 : b ≠ p := fun z => hb (by rw [z]; simp)
        have n2 : b ≠ f := fun z => hb (by rw [z]; simp)
        have n3 : b ≠ q' := fun z => by rw [z, hq2] at e; cases e
        rw [gup_ne n1, gup_ne n3, gup_ne n2]; exact e
  · exact .inr ⟨k, hk, h1, h2, fun dd hdd => h3 dd hdd _⟩
/-! ### the same without picks -/
def sp_look0 (C : Addr) : Sp3 := fun ds G Q => ∃ p f q fs dl, ds = [.ref p, .tup []] ∧ DiskAt C p f q fs dl G ∧ Q .non G
theorem p_look0 (ds : List D) (G : Gp) (Q : K3) (h : sp_look0 C ds G Q) : t_Disk_look_picks K sp_most (D0 Q) (start3 N_Disk_look_picks ds) G := by
  obtain ⟨p, f, q, fs, dl, rfl, hd, h⟩ := h
  simp only [t_Disk_look_picks, N_Disk_look_picks, u_sFor, u_lListRg, u_sRet, u_sRetN, ss_if, ss_asg, ss_drop, ss_ret, ss_retN, ss_next, ss_never, ss_break, ss_cont, ss_seq, ss_par, ss_aug, ss_gh, ss_fld, u_sIf, u_sNever, u_sNext, u_sDrop, u_sAsg, u_sPar, u_sAug, u_sGh, u_sBreak, u_sCont, u_lOp, u_lC, u_lVar, u_lTest, u_lNil, u_lCons, u_lAnd, u_lOr, u_lNot, u_lAndV, u_lOrV, u_lNotV, u_lIf, u_lChain, u_lTup, u_lLst, u_lLstG, u_lCB, u_lCall, u_lIsi, u_lIsi2, u_lSl, u_lNoPart, u_lPart, u_lNeg, u_lJoin, u_lSplit, u_lWords, u_gName3, u_gNil3, u_gCons3, u_gTup3, u_gStar3, u_gSub3, u_iLst3, u_iTup3, u_iStr3, u_iRg1, u_iRg2, u_iEnum3, u_iZip3, u_iZipT3, u_iZipS3, u_tYes3, u_lFld, u_lMeth, u_lMake, u_lFrz, u_lLm, u_lDNew, u_lDGet2, u_lDSetd, u_lCallA, u_sFld3, u_lDIn, u_lDIx, u_lDPop1, u_gDSub, u_gFld3, u_iLive, u_iZipL, u_lMethE, u_sRaise1, u_sRaise0, ss_raise1, ss_raise0, start3, List.map, List.append, List.length, List.replicate, List.set, List.cons_append, List.nil_append, List.getElem?_cons_zero, List.getElem?_cons_succ]
  have hk : kdOf G (.tup []) = some .tuple := rfl
  rw [hk]
  try dsimp only
  have e : (isTy .list .tuple || isTy .tuple .tuple) = true := rfl
  rw [e, Bool.not_true, if_neg Bool.false_ne_true]
  refine enQ (ps := []) (.inr rfl) rfl ⟨fun i τ G' => G' = G, rfl, fun i d τ G' hd _ => absurd (List.getElem?_eq_some_iff.mp hd).1 (by rw [enL_len]; exact Nat.not_lt_zero _), ?_⟩
  rintro τ G' rfl
  exact h
def sp_crash0 (C : Addr) : Sp3 := fun ds G Q => ∃ p f q fs dl, ds = [.ref p, .tup []] ∧ DiskAt C p f q fs dl G ∧ ∀ q' G', G q' = none → DiskAt C p f q' fs [] G' → Kp [p] G G' → Q .non G'
theorem p_crash0 (c : DkC K C) (ds : List D) (G : Gp) (Q : K3) (h : sp_crash0 C ds G Q) : t_Disk_crash K sp_chg C (sp_look0 C) (D0 Q) (start3 N_Disk_crash ds) G := by
  obtain ⟨p, f, q, fs, dl, rfl, hd, h⟩ := h
  simp only [t_Disk_crash, N_Disk_crash, ss_for, u_sFor, u_lListRg, u_sRet, u_sRetN, ss_if, ss_asg, ss_drop, ss_ret, ss_retN, ss_next, ss_never, ss_break, ss_cont, ss_seq, ss_par, ss_aug, ss_gh, ss_fld, u_sIf, u_sNever, u_sNext, u_sDrop, u_sAsg, u_sPar, u_sAug, u_sGh, u_sBreak, u_sCont, u_lOp, u_lC, u_lVar, u_lTest, u_lNil, u_lCons, u_lAnd, u_lOr, u_lNot, u_lAndV, u_lOrV, u_lNotV, u_lIf, u_lChain, u_lTup, u_lLst, u_lLstG, u_lCB, u_lCall, u_lIsi, u_lIsi2, u_lSl, u_lNoPart, u_lPart, u_lNeg, u_lJoin, u_lSplit, u_lWords, u_gName3, u_gNil3, u_gCons3, u_gTup3, u_gStar3, u_gSub3, u_iLst3, u_iTup3, u_iStr3, u_iRg1, u_iRg2, u_iEnum3, u_iZip3, u_iZipT3, u_iZipS3, u_tYes3, u_lFld, u_lMeth, u_lMake, u_lFrz, u_lLm, u_lDNew, u_lDGet2, u_lDSetd, u_lCallA, u_sFld3, u_lDIn, u_lDIx, u_lDPop1, u_gDSub, u_gFld3, u_iLive, u_iZipL, u_lMethE, u_sRaise1, u_sRaise0, ss_raise1, ss_raise0, start3, List.map, List.append, List.length, List.replicate, List.set, List.cons_append, List.nil_append, List.getElem?_cons_zero, List.getElem?_cons_succ]
  refine ⟨_, ins_ref hd.at_, rfl, p, f, q, fs, dl, rfl, hd, ?_⟩
  try dsimp only
  refine enQ (ps := []) (.inr rfl) rfl ⟨fun i τ G' => G' = G ∧ ∃ x y, τ = [some (.ref p), some (.tup []), x, y], ⟨rfl, _, _, rfl⟩, fun i d τ G' hd _ => absurd (List.getElem?_eq_some_iff.mp hd).1 (by rw [enL_len]; exact Nat.not_lt_zero _), ?_⟩
  rintro τ G' ⟨rfl, x, y, rfl⟩
  simp only [u_lListRg, u_sRet, u_sRetN, ss_if, ss_asg, ss_drop, ss_ret, ss_retN, ss_next, ss_never, ss_break, ss_cont, ss_seq, ss_par, ss_aug, ss_gh, ss_fld, u_sIf, u_sNever, u_sNext, u_sDrop, u_sAsg, u_sPar, u_sAug, u_sGh, u_sBreak, u_sCont, u_lOp, u_lC, u_lVar, u_lTest, u_lNil, u_lCons, u_lAnd, u_lOr, u_lNot, u_lAndV, u_lOrV, u_lNotV, u_lIf, u_lChain, u_lTup, u_lLst, u_lLstG, u_lCB, u_lCall, u_lIsi, u_lIsi2, u_lSl, u_lNoPart, u_lPart, u_lNeg, u_lJoin, u_lSplit, u_lWords, u_gName3, u_gNil3, u_gCons3, u_gTup3, u_gStar3, u_gSub3, u_iLst3, u_iTup3, u_iStr3, u_iRg1, u_iRg2, u_iEnum3, u_iZip3, u_iZipT3, u_iZipS3, u_tYes3, u_lFld, u_lMeth, u_lMake, u_lFrz, u_lLm, u_lDNew, u_lDGet2, u_lDSetd, u_lCallA, u_sFld3, u_lDIn, u_lDIx, u_lDPop1, u_gDSub, u_gFld3, u_iLive, u_iZipL, u_lMethE, u_sRaise1, u_sRaise0, ss_raise1, ss_raise0, start3, List.map, List.append, List.length, List.replicate, List.set, List.cons_append, List.nil_append, List.getElem?_cons_zero, List.getElem?_cons_succ]
  refine ⟨by decide, fun q' hq' => ?_⟩
  have hqp : q' ≠ p := fun e => by rw [e, hd.at_] at hq'; cases hq'
  simp only [gup_ne (Ne.symm hqp), hd.at_]
  refine ⟨c.cls, c.nq, by show (2 : Nat) < 1000; decide, h q' _ hq' ⟨?_, ?_, ?_⟩ ?_⟩
  · rw [gup_same]; rfl
  · have hqf : q' ≠ f := fun e => by rw [e, hd.fl] at hq'; cases hq'
    rw [gup_ne hd.pf, gup_ne (Ne.symm hqf)]; exact hd.fl
  · rw [gup_ne hqp, gup_same]; rfl
  · intro b o hb e
    have n1 : b ≠ p := fun z => hb (by rw [z]; simp)
    have n3 : b ≠ q' := fun z => by rw [z, hq'] at e; cases e
    rw [gup_ne n1, gup_ne n3]; exact e
end
end K69
end

section
set_option Elab.async false
set_option linter.all false
set_option maxRecDepth 100000
set_option maxHeartbeats 1000000
namespace K69
open PySem PySem.Spec PyProof.Rows L2 L3 PP PT SX LamX
section
variable {P : Program} {w : World} {K : PySem.W.Frag} {mg : Str → Option Value} {base : Heap}
theorem xi_NoDeed {C W fI : Addr} {fd : FuncData} (F : FunD K d_NoDeed___init__.name d_NoDeed___init__.qual d_NoDeed___init__.params d_NoDeed___init__.body d_NoDeed___init__.scope [.non] [] fI fd) (T : XiC K C "ValueError" "ValueError.__new__" "ValueError.__init__" bmVE)
    (bw : BaseW K W "ValueError.__init__") (hno : PySem.W.findIn K (.ref C) "at" = some none) (hm : mg "Wrong" = some (.ref W)) : FnOk P w K mg base CX0 1 fI fd ["self", "at"] (spXi C "at") := by
  have sc : FnScope ["self", "at"] ["self", "at"] d_NoDeed___init__.scope := ⟨rfl, rfl, rfl, by decide +kernel, rfl, by decide +kernel, by decide +kernel⟩
  refine F.ok (k := 0) (N := ["self", "at"]) sc (fun vs H Q E h => by obtain ⟨a, y, e, _⟩ := h; rw [e]; rfl) fun cdv A outer s H vs Q E hr h => ?_
  refine ⟨_, pss_cons (ps_expr (pe_xinitO T bw (by rfl) hm (pa_cons (pe_var (i := 0) rfl (Or.inl rfl)) (pa_cons pe_str pa_nil)) (by decide) rfl)) (pss_one (ps_xst T hno (pe_var (i := 0) rfl (Or.inl rfl)) (pe_var (i := 1) rfl (Or.inl rfl)))), ?_⟩
  obtain ⟨a, y, rfl, hH, q⟩ := h
  exact ⟨_, rfl, a, [V.str "refused"], rfl, by decide, hH, _, rfl, _, rfl, a, rfl, hH, fun dx h1 h2 => q dx h1 h2⟩
end
end K69
end

section
set_option Elab.async false
set_option linter.all false
set_option maxRecDepth 100000
set_option maxHeartbeats 1000000
namespace K69
open PySem PySem.Spec PyProof.Rows L2 L3 PP PT SX
/-! ### names, texts, files, deeds of the law -/
def nmL : List Str := ["h1", "h2", "s1.0", "a"]
def TxOk (t : Str) : Prop := ∃ r, t = S r ∧ Asc r ∧ r.length ≤ 12
def FsOk (fs : FS) : Prop := ∀ x ∈ fs, x.1 ∈ nmL ∧ TxOk x.2
def DdOk : Dd → Prop
  | .wr n t => n ∈ nmL ∧ TxOk t
  | .er n => n ∈ nmL
def DlOk (dl : List Dd) : Prop := ∀ d ∈ dl, DdOk d
theorem nm_is : ∀ n ∈ nmL, isNm n = true ∧ n.length ≤ 4 ∧ PyData.strOk n = true := by decide +kernel
theorem tx_len {t : Str} (h : TxOk t) : t.length ≤ 12 := by
  obtain ⟨r, rfl, _, h⟩ := h
  rw [S_len]; exact h
theorem DlOk.sm {dl : List Dd} (h : DlOk dl) : SmD dl := fun d hd n t e => by
  have := h d hd
  rw [e] at this
  have := tx_len this.2
  omega
theorem most_le {d : Dd} (h : DdOk d) : most d ≤ 13 := by
  cases d with
  | wr n t => have := tx_len h.2; simp only [most]; omega
  | er n => simp only [most]; omega
theorem cut_tx {r : List Nat} (k : Nat) : cutS (S r) none (some (k : Int)) = S (r.take k) := by
  unfold cutS
  rw [HT.sIx_none, HT.sIx_nat, S_len]
  show S ((r.drop 0).take (min k r.length - 0)) = _
  rw [List.drop_zero, Nat.sub_zero]
  congr 1
  rcases Nat.le_total k r.length with h | h
  · rw [Nat.min_eq_left h]
  · rw [Nat.min_eq_right h, List.take_length, List.take_of_length_le h]
theorem cut_ok {t : Str} (h : TxOk t) (k : Nat) : TxOk (cutS t none (some (k : Int))) := by
  obtain ⟨r, rfl, ha, hl⟩ := h
  rw [cut_tx]
  exact ⟨_, rfl, ha.take _, by rw [List.length_take]; omega⟩
theorem put_ok {fs : FS} {n t : Str} (h : FsOk fs) (hn : n ∈ nmL) (ht : TxOk t) : FsOk (putF fs n t) := by
  unfold putF
  split
  · intro x hx
    obtain ⟨y, hy, rfl⟩ := List.mem_map.mp hx
    split
    · exact ⟨(h y hy).1, ht⟩
    · exact h y hy
  · intro x hx
    rcases List.mem_append.mp hx with hx | hx
    · exact h x hx
    · rw [List.mem_singleton.mp hx]; exact ⟨hn, ht⟩
theorem drop_ok {fs : FS} {n : Str} (h : FsOk fs) : FsOk (dropF fs n) := fun x hx => h x (List.mem_filter.mp hx).1
theorem step_ok {fs : FS} {d : Dd} {i : Int} (h : FsOk fs) (hd : DdOk d) (hi : 0 < i) : FsOk (step fs d i) := by
  cases d with
  | er n =>
    show FsOk (if (getF fs n).isSome then dropF fs n else fs)
    split
    · exact drop_ok h
    · exact h
  | wr n t =>
    show FsOk (putF fs n (cutS t none (some (i - 1))))
    have e : i - 1 = ((i - 1).toNat : Int) := by omega
    rw [e]
    exact put_ok h hd.1 (cut_ok hd.2 _)
theorem done_ok : ∀ (l : List (Dd × Int)) (fs : FS), FsOk fs → (∀ x ∈ l, DdOk x.1) → FsOk (doneF fs l)
  | [], fs, h, _ => h
  | x :: l, fs, h, hl => by
    have e : doneF fs (x :: l) = doneF (stepP fs x) l := rfl
    rw [e]
    refine done_ok l _ ?_ fun y hy => hl y (List.mem_cons_of_mem _ hy)
    unfold stepP
    split
    · rename_i h0; exact step_ok h (hl x List.mem_cons_self) h0
    · exact h
theorem seen_ok {fs : FS} {dl : List Dd} (h : FsOk fs) (hd : DlOk dl) : FsOk (seenF fs dl) := done_ok _ _ h fun x hx => by
  obtain ⟨d, hd2, rfl⟩ := List.mem_map.mp hx
  exact hd d hd2
theorem chosen_ok {fs : FS} {dl : List Dd} {ps : List D} (h : FsOk fs) (hd : DlOk dl) : FsOk (doneF fs (chosenF dl ps)) := done_ok _ _ h fun x hx => hd _ (List.of_mem_zip hx).1
theorem get_mem {fs : FS} {n t : Str} (h : getF fs n = some t) : ∃ x ∈ fs, x.1 = n ∧ x.2 = t := by
  unfold getF at h
  cases e : fs.find? fun p => decide (p.1 = n) with
  | none => rw [e] at h; cases h
  | some x =>
    rw [e] at h
    cases h
    exact ⟨x, List.mem_of_find?_eq_some e, by simpa using List.find?_some e, rfl⟩
theorem get_some {fs : FS} {n : Str} (h : n ∈ fs.map (·.1)) : ∃ t, getF fs n = some t := by
  unfold getF
  cases e : fs.find? fun p => decide (p.1 = n) with
  | some x => exact ⟨_, rfl⟩
  | none =>
    obtain ⟨x, hx, rfl⟩ := List.mem_map.mp h
    have := List.find?_eq_none.mp e x hx
    exact absurd (decide_eq_true rfl) this
/-! ### lists that live -/
theorem lst_gup {G : Gp} {p : Addr} {o : GO} {X : D} {l : List D} (hp : G p = none) (h : lstOf G X = some l) : lstOf (gup G p o) X = some l := by
  cases X with
  | ref a =>
    have h' : (match G a with | some (.lst ds) => some ds | _ => none) = some l := h
    have ne : a ≠ p := fun e => by rw [e, hp] at h'; cases h'
    show (match gup G p o a with | some (.lst ds) => some ds | _ => none) = some l
    rw [gup_ne ne]; exact h'
  | lst ds => exact h
  | _ => exact absurd h (by simp [lstOf])
theorem gdel_gup {G : Gp} {p : Addr} {o : GO} (hp : G p = none) : gdel (gup G p o) p = G := by
  funext b
  by_cases e : b = p
  · rw [e, gdel_same, hp]
  · rw [gdel_ne e, gup_ne e]
section
variable {G : Gp} {Q : K3}
theorem q_ixn2 {x y : D} : rIx3 (.tup [x, y]) (.int (-1)) G Q = Q y G := rfl
theorem q_ixn3 {x y z : D} : rIx3 (.tup [x, y, z]) (.int (-1)) G Q = Q z G := rfl
/-! ### all the picks there are -/
def fullD (dl : List Dd) : D := .lst (dl.map fun d => .int (most d))
def sp_full : Sp3 := fun ds G Q => ∃ X dl, ds = [X] ∧ lstOf G X = some (dl.map deD) ∧ DlOk dl ∧ dl.length ≤ 1000 ∧ Q (fullD dl) G
theorem p_full (ds : List D) (G : Gp) (Q : K3) (h : sp_full ds G Q) : t__law_full (D0 Q) (start3 N__law_full ds) G := by
  obtain ⟨X, dl, rfl, hX, hd, hl, k⟩ := h
  have hz : sizeLine = 2 ^ 24 := rfl
  simp only [t__law_full, N__law_full, u_lListRg, u_sRet, u_sRetN, ss_if, ss_asg, ss_drop, ss_ret, ss_retN, ss_next, ss_never, ss_break, ss_cont, ss_seq, ss_par, ss_aug, ss_gh, ss_fld, u_sIf, u_sNever, u_sNext, u_sDrop, u_sAsg, u_sPar, u_sAug, u_sGh, u_sBreak, u_sCont, u_lOp, u_lC, u_lVar, u_lTest, u_lNil, u_lCons, u_lAnd, u_lOr, u_lNot, u_lAndV, u_lOrV, u_lNotV, u_lIf, u_lChain, u_lTup, u_lLst, u_lLstG, u_lCB, u_lCall, u_lIsi, u_lIsi2, u_lSl, u_lNoPart, u_lPart, u_lNeg, u_lJoin, u_lSplit, u_lWords, u_gName3, u_gNil3, u_gCons3, u_gTup3, u_gStar3, u_gSub3, u_iLst3, u_iTup3, u_iStr3, u_iRg1, u_iRg2, u_iEnum3, u_iZip3, u_iZipT3, u_iZipS3, u_tYes3, u_lFld, u_lMeth, u_lMake, u_lFrz, u_lLm, u_lDNew, u_lDGet2, u_lDSetd, u_lCallA, u_sFld3, u_lDIn, u_lDIx, u_lDPop1, u_gDSub, u_gFld3, u_iLive, u_iZipL, u_iEnumQ3, u_lMethE, u_sRaise1, u_sRaise0, ss_raise1, ss_raise0, start3, List.map, List.append, List.length, List.replicate, List.set, List.cons_append, List.nil_append, List.getElem?_cons_zero, List.getElem?_cons_succ, lLcP]
  rw [hX]
  intro p hp
  refine ⟨fun i acc G' => G' = gup G p (.lst acc) ∧ acc = (dl.take i).map (fun d => .int (most d)), ⟨rfl, rfl⟩, ?_, ?_, ?_⟩
  · rintro i acc G' ⟨rfl, _⟩
    exact lst_gup hp hX
  · rintro i d acc G' hdi ⟨rfl, rfl⟩
    rw [List.getElem?_map] at hdi
    cases e : dl[i]? with
    | none => rw [e] at hdi; cases hdi
    | some d' =>
      rw [e] at hdi
      cases hdi
      have hi := (List.getElem?_eq_some_iff.mp e).1
      have ho := hd d' (List.mem_of_getElem? e)
      simp only [u_lListRg, u_sRet, u_sRetN, ss_if, ss_asg, ss_drop, ss_ret, ss_retN, ss_next, ss_never, ss_break, ss_cont, ss_seq, ss_par, ss_aug, ss_gh, ss_fld, u_sIf, u_sNever, u_sNext, u_sDrop, u_sAsg, u_sPar, u_sAug, u_sGh, u_sBreak, u_sCont, u_lOp, u_lC, u_lVar, u_lTest, u_lNil, u_lCons, u_lAnd, u_lOr, u_lNot, u_lAndV, u_lOrV, u_lNotV, u_lIf, u_lChain, u_lTup, u_lLst, u_lLstG, u_lCB, u_lCall, u_lIsi, u_lIsi2, u_lSl, u_lNoPart, u_lPart, u_lNeg, u_lJoin, u_lSplit, u_lWords, u_gName3, u_gNil3, u_gCons3, u_gTup3, u_gStar3, u_gSub3, u_iLst3, u_iTup3, u_iStr3, u_iRg1, u_iRg2, u_iEnum3, u_iZip3, u_iZipT3, u_iZipS3, u_tYes3, u_lFld, u_lMeth, u_lMake, u_lFrz, u_lLm, u_lDNew, u_lDGet2, u_lDSetd, u_lCallA, u_sFld3, u_lDIn, u_lDIx, u_lDPop1, u_gDSub, u_gFld3, u_iLive, u_iZipL, u_iEnumQ3, u_lMethE, u_sRaise1, u_sRaise0, ss_raise1, ss_raise0, start3, List.map, List.append, List.length, List.replicate, List.set, List.cons_append, List.nil_append, List.getElem?_cons_zero, List.getElem?_cons_succ, wipe3, if_true]
      have fin : gup G p (.lst ((dl.take i).map fun d => .int (most d))) p = some (.lst ((dl.take i).map fun d => .int (most d))) ∧ ((dl.take i).map fun d => D.int (most d)).length < sizeLine ∧ gup (gup G p (.lst ((dl.take i).map fun d => .int (most d)))) p (.lst ((dl.take i).map (fun d => .int (most d)) ++ [.int (most d')])) = gup G p (.lst ((dl.take i).map (fun d => .int (most d)) ++ [.int (most d')])) ∧ (dl.take i).map (fun d => .int (most d)) ++ [.int (most d')] = (dl.take (i + 1)).map (fun d => D.int (most d)) := by
        refine ⟨gup_same, by rw [List.length_map, List.length_take]; omega, gup_gup, ?_⟩
        rw [List.take_add_one, e, List.map_append]; rfl
      cases d' with
      | wr n t =>
        have ht := tx_len ho.2
        simp only [deD]
        rw [q_ixn3]
        try dsimp only
        rw [q_len_str (by omega), q_add]
        refine ⟨by decide, ?_⟩
        rw [q_ix0, q_eq_str, wr_er]
        try dsimp only
        rw [q_int]
        try dsimp only
        show rIx3 _ (.int 0) _ _
        rw [q_lx0]
        exact fin
      | er n =>
        have hn := (nm_is n ho).2.1
        simp only [deD]
        rw [q_ixn2]
        try dsimp only
        rw [q_len_str (by omega), q_add]
        refine ⟨by decide, ?_⟩
        rw [q_ix0, q_eq_str, decide_eq_true rfl]
        try dsimp only
        rw [q_int]
        try dsimp only
        show rIx3 _ (.int 1) _ _
        rw [q_lx1]
        exact fin
  · rintro acc G' ⟨rfl, rfl⟩
    rw [List.length_map, List.take_length]
    refine ⟨gup_same, ?_⟩
    rw [gdel_gup hp]
    exact k
/-! ### the files where deeds are done -/
def sp_ldone : Sp3 := fun ds G Q => ∃ fd X fs dl, ∃ ns : List Int, ds = [fd, X, .lst (ns.map .int)] ∧ dicOf G fd = some (fsD fs) ∧ lstOf G X = some (dl.map deD) ∧ DlOk dl ∧ fs.length + dl.length ≤ 1000 ∧ Q (.dic (fsD (doneF fs (dl.zip ns)))) G
theorem p_ldone (ds : List D) (G : Gp) (Q : K3) (h : sp_ldone ds G Q) : t__law_done (D0 Q) (start3 N__law_done ds) G := by
  obtain ⟨fd, X, fs, dl, ns, rfl, hf, hX, hd, hl, k⟩ := h
  have hz : sizeLine = 2 ^ 24 := rfl
  simp only [t__law_done, N__law_done, ss_forP, u_lListRg, u_sRet, u_sRetN, ss_if, ss_asg, ss_drop, ss_ret, ss_retN, ss_next, ss_never, ss_break, ss_cont, ss_seq, ss_par, ss_aug, ss_gh, ss_fld, u_sIf, u_sNever, u_sNext, u_sDrop, u_sAsg, u_sPar, u_sAug, u_sGh, u_sBreak, u_sCont, u_lOp, u_lC, u_lVar, u_lTest, u_lNil, u_lCons, u_lAnd, u_lOr, u_lNot, u_lAndV, u_lOrV, u_lNotV, u_lIf, u_lChain, u_lTup, u_lLst, u_lLstG, u_lCB, u_lCall, u_lIsi, u_lIsi2, u_lSl, u_lNoPart, u_lPart, u_lNeg, u_lJoin, u_lSplit, u_lWords, u_gName3, u_gNil3, u_gCons3, u_gTup3, u_gStar3, u_gSub3, u_iLst3, u_iTup3, u_iStr3, u_iRg1, u_iRg2, u_iEnum3, u_iZip3, u_iZipT3, u_iZipS3, u_tYes3, u_lFld, u_lMeth, u_lMake, u_lFrz, u_lLm, u_lDNew, u_lDGet2, u_lDSetd, u_lCallA, u_sFld3, u_lDIn, u_lDIx, u_lDPop1, u_gDSub, u_gFld3, u_iLive, u_iZipL, u_iEnumQ3, u_lMethE, u_sRaise1, u_sRaise0, ss_raise1, ss_raise0, start3, List.map, List.append, List.length, List.replicate, List.set, List.cons_append, List.nil_append, List.getElem?_cons_zero, List.getElem?_cons_succ, rDCopy3, hf]
  intro p hp
  rw [lst_gup hp hX]
  try dsimp only [lstOf]
  refine ⟨fun i τ G' => (∃ x y, τ = [some fd, some X, some (.lst (ns.map .int)), some (.ref p), x, y]) ∧ G' = gup G p (.dic (fsD (doneF fs ((dl.zip ns).take i)))), ⟨⟨_, _, rfl⟩, rfl⟩, ?_, ?_, ?_⟩
  · rintro i τ G' ⟨⟨x, y, rfl⟩, rfl⟩
    exact ⟨lst_gup hp hX, rfl⟩
  · rintro i d τ G' hdi ⟨⟨x, y, rfl⟩, rfl⟩
    have hi := (List.getElem?_eq_some_iff.mp hdi).1
    rw [zpL_len, List.length_map, List.length_map] at hi
    obtain ⟨e, he⟩ : ∃ e, dl[i]? = some e := ⟨_, List.getElem?_eq_getElem (by omega)⟩
    obtain ⟨n, hn⟩ : ∃ n, ns[i]? = some n := ⟨_, List.getElem?_eq_getElem (by omega)⟩
    rw [zpL_get (d := deD e) (e := .int n) (by rw [List.getElem?_map, he]; rfl) (by rw [List.getElem?_map, hn]; rfl)] at hdi
    cases hdi
    have ho := hd e (List.mem_of_getElem? he)
    have hst := done_take fs (dl.zip ns) i (x := (e, n)) (by rw [List.getElem?_zip_eq_some]; exact ⟨he, hn⟩)
    unfold stepP at hst
    simp only [u_lListRg, u_sRet, u_sRetN, ss_if, ss_asg, ss_drop, ss_ret, ss_retN, ss_next, ss_never, ss_break, ss_cont, ss_seq, ss_par, ss_aug, ss_gh, ss_fld, u_sIf, u_sNever, u_sNext, u_sDrop, u_sAsg, u_sPar, u_sAug, u_sGh, u_sBreak, u_sCont, u_lOp, u_lC, u_lVar, u_lTest, u_lNil, u_lCons, u_lAnd, u_lOr, u_lNot, u_lAndV, u_lOrV, u_lNotV, u_lIf, u_lChain, u_lTup, u_lLst, u_lLstG, u_lCB, u_lCall, u_lIsi, u_lIsi2, u_lSl, u_lNoPart, u_lPart, u_lNeg, u_lJoin, u_lSplit, u_lWords, u_gName3, u_gNil3, u_gCons3, u_gTup3, u_gStar3, u_gSub3, u_iLst3, u_iTup3, u_iStr3, u_iRg1, u_iRg2, u_iEnum3, u_iZip3, u_iZipT3, u_iZipS3, u_tYes3, u_lFld, u_lMeth, u_lMake, u_lFrz, u_lLm, u_lDNew, u_lDGet2, u_lDSetd, u_lCallA, u_sFld3, u_lDIn, u_lDIx, u_lDPop1, u_gDSub, u_gFld3, u_iLive, u_iZipL, u_iEnumQ3, u_lMethE, u_sRaise1, u_sRaise0, ss_raise1, ss_raise0, start3, List.map, List.append, List.length, List.replicate, List.set, List.cons_append, List.nil_append, List.getElem?_cons_zero, List.getElem?_cons_succ, itemsOf]
    refine ⟨trivial, ?_⟩
    rw [q_gt]
    try dsimp only
    by_cases hp0 : 0 < n
    · rw [if_pos hp0] at hst
      rw [decide_eq_true hp0, if_pos rfl]
      cases e with
      | wr m t =>
        simp only [deD]
        rw [q_ix0, q_eq_str, wr_er]
        try dsimp only
        rw [if_neg Bool.false_ne_true, q_gt, decide_eq_true hp0]
        try dsimp only
        rw [if_pos rfl, q_ix2]
        try dsimp only
        rw [q_sub]
        have ht := tx_len ho.2
        refine ⟨by omega, ?_⟩
        try dsimp only
        rw [q_ix1]
        simp only [gup_same, keyD]
        refine ⟨?_, ⟨_, _, rfl⟩, ?_⟩
        · rw [len_fs]
          have h1 := done_len ((dl.zip ns).take i) fs
          have h2 : ((dl.zip ns).take i).length ≤ dl.length := by rw [List.length_take, List.length_zip]; omega
          omega
        · rw [gup_gup, put_fs, hst]; rfl
      | er m =>
        simp only [deD]
        rw [q_ix0, q_eq_str, decide_eq_true rfl]
        try dsimp only
        rw [if_pos rfl, q_ix1]
        simp only [dicOf, gup_same, keyD, val_fs, Bool.false_xor]
        have es : step (doneF fs ((dl.zip ns).take i)) (.er m) n = if (getF (doneF fs ((dl.zip ns).take i)) m).isSome then dropF (doneF fs ((dl.zip ns).take i)) m else doneF fs ((dl.zip ns).take i) := rfl
        rw [es] at hst
        cases e2 : getF (doneF fs ((dl.zip ns).take i)) m with
        | some t =>
          rw [e2] at hst
          simp only [Option.map_some, Option.isSome_some, if_true] at hst ⊢
          refine ⟨p, fsD (doneF fs ((dl.zip ns).take i)), rfl, gup_same, ?_⟩
          rw [q_ix1]
          simp only [gup_same, keyD]
          refine ⟨.str t, by rw [val_fs, e2]; rfl, ⟨_, _, rfl⟩, ?_⟩
          rw [gup_gup, drop_fs, hst]
        | none =>
          rw [e2] at hst
          simp only [Option.map_none, Option.isSome_none, Bool.false_eq_true, if_false] at hst ⊢
          exact ⟨⟨_, _, rfl⟩, by rw [hst]⟩
    · rw [if_neg hp0] at hst
      rw [decide_eq_false hp0, if_neg Bool.false_ne_true, q_gt, decide_eq_false hp0]
      try dsimp only
      rw [if_neg Bool.false_ne_true]
      exact ⟨⟨_, _, rfl⟩, by rw [hst]⟩
  · rintro τ G' ⟨⟨x, y, rfl⟩, rfl⟩
    have et : (dl.zip ns).take (zpL (dl.map deD) (ns.map .int)).length = dl.zip ns := by
      refine List.take_of_length_le ?_
      rw [zpL_len, List.length_map, List.length_map, List.length_zip]; omega
    rw [et]
    simp only [sFrz, u_lListRg, u_sRet, u_sRetN, ss_if, ss_asg, ss_drop, ss_ret, ss_retN, ss_next, ss_never, ss_break, ss_cont, ss_seq, ss_par, ss_aug, ss_gh, ss_fld, u_sIf, u_sNever, u_sNext, u_sDrop, u_sAsg, u_sPar, u_sAug, u_sGh, u_sBreak, u_sCont, u_lOp, u_lC, u_lVar, u_lTest, u_lNil, u_lCons, u_lAnd, u_lOr, u_lNot, u_lAndV, u_lOrV, u_lNotV, u_lIf, u_lChain, u_lTup, u_lLst, u_lLstG, u_lCB, u_lCall, u_lIsi, u_lIsi2, u_lSl, u_lNoPart, u_lPart, u_lNeg, u_lJoin, u_lSplit, u_lWords, u_gName3, u_gNil3, u_gCons3, u_gTup3, u_gStar3, u_gSub3, u_iLst3, u_iTup3, u_iStr3, u_iRg1, u_iRg2, u_iEnum3, u_iZip3, u_iZipT3, u_iZipS3, u_tYes3, u_lFld, u_lMeth, u_lMake, u_lFrz, u_lLm, u_lDNew, u_lDGet2, u_lDSetd, u_lCallA, u_sFld3, u_lDIn, u_lDIx, u_lDPop1, u_gDSub, u_gFld3, u_iLive, u_iZipL, u_iEnumQ3, u_lMethE, u_sRaise1, u_sRaise0, ss_raise1, ss_raise0, start3, List.map, List.append, List.length, List.replicate, List.set, List.cons_append, List.nil_append, List.getElem?_cons_zero, List.getElem?_cons_succ, gup_same]
    rw [gdel_gup hp]
    exact k
theorem seen_zip (dl : List Dd) : dl.zip (dl.map most) = dl.map fun d => (d, most d) := by
  induction dl with
  | nil => rfl
  | cons d l ih => simp only [List.map_cons, List.zip_cons_cons, ih]
def sp_lseen : Sp3 := fun ds G Q => ∃ fd X fs dl, ds = [fd, X] ∧ dicOf G fd = some (fsD fs) ∧ lstOf G X = some (dl.map deD) ∧ DlOk dl ∧ fs.length + dl.length ≤ 1000 ∧ Q (.dic (fsD (seenF fs dl))) G
theorem p_lseen (ds : List D) (G : Gp) (Q : K3) (h : sp_lseen ds G Q) : t__law_seen sp_ldone sp_full (D0 Q) (start3 N__law_seen ds) G := by
  obtain ⟨fd, X, fs, dl, rfl, hf, hX, hd, hl, k⟩ := h
  simp only [t__law_seen, N__law_seen, u_lListRg, u_sRet, u_sRetN, ss_if, ss_asg, ss_drop, ss_ret, ss_retN, ss_next, ss_never, ss_break, ss_cont, ss_seq, ss_par, ss_aug, ss_gh, ss_fld, u_sIf, u_sNever, u_sNext, u_sDrop, u_sAsg, u_sPar, u_sAug, u_sGh, u_sBreak, u_sCont, u_lOp, u_lC, u_lVar, u_lTest, u_lNil, u_lCons, u_lAnd, u_lOr, u_lNot, u_lAndV, u_lOrV, u_lNotV, u_lIf, u_lChain, u_lTup, u_lLst, u_lLstG, u_lCB, u_lCall, u_lIsi, u_lIsi2, u_lSl, u_lNoPart, u_lPart, u_lNeg, u_lJoin, u_lSplit, u_lWords, u_gName3, u_gNil3, u_gCons3, u_gTup3, u_gStar3, u_gSub3, u_iLst3, u_iTup3, u_iStr3, u_iRg1, u_iRg2, u_iEnum3, u_iZip3, u_iZipT3, u_iZipS3, u_tYes3, u_lFld, u_lMeth, u_lMake, u_lFrz, u_lLm, u_lDNew, u_lDGet2, u_lDSetd, u_lCallA, u_sFld3, u_lDIn, u_lDIx, u_lDPop1, u_gDSub, u_gFld3, u_iLive, u_iZipL, u_iEnumQ3, u_lMethE, u_sRaise1, u_sRaise0, ss_raise1, ss_raise0, start3, List.map, List.append, List.length, List.replicate, List.set, List.cons_append, List.nil_append, List.getElem?_cons_zero, List.getElem?_cons_succ]
  refine ⟨X, dl, rfl, hX, hd, by omega, ?_⟩
  refine ⟨fd, X, fs, dl, dl.map most, ?_, hf, hX, hd, hl, ?_⟩
  · show [fd, X, fullD dl] = _
    unfold fullD
    rw [List.map_map]; rfl
  · rw [seen_zip]; exact k
/-! ### the first wrong pick -/
def wrongD (dl : List Dd) (ps : List D) : D := match wrongP dl ps with
  | none => .non
  | some i => .int (i : Int)
def sp_lwrong : Sp3 := fun ds G Q => ∃ ps X dl, ds = [.lst ps, X] ∧ lstOf G X = some (dl.map deD) ∧ DlOk dl ∧ dl.length ≤ 1000 ∧ ps.length ≤ 1000 ∧ (∀ d ∈ ps, PkOk d) ∧ Q (wrongD dl ps) G
theorem p_lwrong (ds : List D) (G : Gp) (Q : K3) (h : sp_lwrong ds G Q) : t__law_wrong sp_full (D0 Q) (start3 N__law_wrong ds) G := by
  obtain ⟨ps, X, dl, rfl, hX, hd, hl, hpl, hpk, k⟩ := h
  have hz : sizeLine = 2 ^ 24 := rfl
  simp only [t__law_wrong, N__law_wrong, ss_for, u_sFor, u_lListRg, u_sRet, u_sRetN, ss_if, ss_asg, ss_drop, ss_ret, ss_retN, ss_next, ss_never, ss_break, ss_cont, ss_seq, ss_par, ss_aug, ss_gh, ss_fld, u_sIf, u_sNever, u_sNext, u_sDrop, u_sAsg, u_sPar, u_sAug, u_sGh, u_sBreak, u_sCont, u_lOp, u_lC, u_lVar, u_lTest, u_lNil, u_lCons, u_lAnd, u_lOr, u_lNot, u_lAndV, u_lOrV, u_lNotV, u_lIf, u_lChain, u_lTup, u_lLst, u_lLstG, u_lCB, u_lCall, u_lIsi, u_lIsi2, u_lSl, u_lNoPart, u_lPart, u_lNeg, u_lJoin, u_lSplit, u_lWords, u_gName3, u_gNil3, u_gCons3, u_gTup3, u_gStar3, u_gSub3, u_iLst3, u_iTup3, u_iStr3, u_iRg1, u_iRg2, u_iEnum3, u_iZip3, u_iZipT3, u_iZipS3, u_tYes3, u_lFld, u_lMeth, u_lMake, u_lFrz, u_lLm, u_lDNew, u_lDGet2, u_lDSetd, u_lCallA, u_sFld3, u_lDIn, u_lDIx, u_lDPop1, u_gDSub, u_gFld3, u_iLive, u_iZipL, u_iEnumQ3, u_lMethE, u_sRaise1, u_sRaise0, ss_raise1, ss_raise0, start3, List.map, List.append, List.length, List.replicate, List.set, List.cons_append, List.nil_append, List.getElem?_cons_zero, List.getElem?_cons_succ]
  refine ⟨X, dl, rfl, hX, hd, hl, ?_⟩
  try dsimp only
  rw [q_len_lst]
  try dsimp only
  refine ⟨⟨by omega, by omega⟩, fun i τ G' => G' = G ∧ (∃ x, τ = [some (.lst ps), some X, some (fullD dl), x]) ∧ ∀ j, j < i → okP dl j (ps.getD j .non) = true, ⟨rfl, ⟨_, rfl⟩, fun j hj => absurd hj (Nat.not_lt_zero j)⟩, ?_, ?_⟩
  · rintro i d τ G' hdi ⟨rfl, ⟨x, rfl⟩, hb⟩
    have hi := (List.getElem?_eq_some_iff.mp hdi).1
    rw [rgL_len] at hi
    rw [rgL_get hi, Int.zero_add] at hdi
    cases hdi
    have hi2 : i < ps.length := by omega
    have hg : ps[i]? = some ps[i] := by simp [hi2]
    have hgd := getD_of hg
    have hpk1 := hpk _ (List.getElem_mem hi2)
    have bad : okP dl i ps[i] = false → Q (.int (i : Int)) G' := fun h => by
      have := wrong_some hi2 (by rw [hgd]; exact h) hb
      unfold wrongD at k
      rw [this] at k
      exact k
    have good : okP dl i ps[i] = true → ∀ j, j < i + 1 → okP dl j (ps.getD j .non) = true := fun h j hj => by
      rcases Nat.lt_succ_iff_lt_or_eq.mp hj with z | z
      · exact hb j z
      · rw [z, hgd]; exact h
    simp only [u_lListRg, u_sRet, u_sRetN, ss_if, ss_asg, ss_drop, ss_ret, ss_retN, ss_next, ss_never, ss_break, ss_cont, ss_seq, ss_par, ss_aug, ss_gh, ss_fld, u_sIf, u_sNever, u_sNext, u_sDrop, u_sAsg, u_sPar, u_sAug, u_sGh, u_sBreak, u_sCont, u_lOp, u_lC, u_lVar, u_lTest, u_lNil, u_lCons, u_lAnd, u_lOr, u_lNot, u_lAndV, u_lOrV, u_lNotV, u_lIf, u_lChain, u_lTup, u_lLst, u_lLstG, u_lCB, u_lCall, u_lIsi, u_lIsi2, u_lSl, u_lNoPart, u_lPart, u_lNeg, u_lJoin, u_lSplit, u_lWords, u_gName3, u_gNil3, u_gCons3, u_gTup3, u_gStar3, u_gSub3, u_iLst3, u_iTup3, u_iStr3, u_iRg1, u_iRg2, u_iEnum3, u_iZip3, u_iZipT3, u_iZipS3, u_tYes3, u_lFld, u_lMeth, u_lMake, u_lFrz, u_lLm, u_lDNew, u_lDGet2, u_lDSetd, u_lCallA, u_sFld3, u_lDIn, u_lDIx, u_lDPop1, u_gDSub, u_gFld3, u_iLive, u_iZipL, u_iEnumQ3, u_lMethE, u_sRaise1, u_sRaise0, ss_raise1, ss_raise0, start3, List.map, List.append, List.length, List.replicate, List.set, List.cons_append, List.nil_append, List.getElem?_cons_zero, List.getElem?_cons_succ]
    have hlen : rLen3 [fullD dl] G' = fun Q : K3 => Q (.int dl.length) G' := by
      funext Q
      unfold fullD
      rw [q_len_lst, List.length_map]
    rw [hlen]
    try dsimp only
    rw [q_ge]
    try dsimp only
    by_cases hlt : i < dl.length
    · rw [decide_eq_false (show ¬ ((dl.length : Nat) : Int) ≤ (i : Int) by omega), if_neg Bool.false_ne_true]
      obtain ⟨e, he⟩ : ∃ e, dl[i]? = some e := ⟨_, List.getElem?_eq_getElem hlt⟩
      rw [q_ix_lst hg]
      revert hpk1 bad good hg hgd
      generalize ps[i] = y
      intro hg hgd hpk1 bad good
      cases hpk1 with
      | int n =>
        have ho : okP dl i (.int n) = (decide (0 ≤ n) && decide (n ≤ most e)) := by simp only [okP, he]
        simp only [kdOf, isTy, Bool.not_true, Bool.false_eq_true, if_false]
        rw [q_ix_lst hg]
        simp only [kdOf, isTy, Bool.not_true, Bool.false_eq_true, if_false]
        rw [q_ix_lst hg]
        try dsimp only
        rw [q_le]
        try dsimp only
        by_cases h0 : 0 ≤ n
        · rw [decide_eq_true h0, if_pos rfl]
          unfold fullD
          rw [q_ix_lst (d := .int (most e)) (by rw [List.getElem?_map, he]; rfl)]
          try dsimp only
          rw [q_le]
          try dsimp only
          by_cases h1 : n ≤ most e
          · rw [decide_eq_true h1, Bool.not_true, if_neg Bool.false_ne_true]
            exact ⟨rfl, ⟨_, rfl⟩, good (by rw [ho, decide_eq_true h0, decide_eq_true h1]; rfl)⟩
          · rw [decide_eq_false h1, Bool.not_false, if_pos rfl]
            exact bad (by rw [ho, decide_eq_false h1, Bool.and_false])
        · rw [decide_eq_false h0, if_neg Bool.false_ne_true, Bool.not_false, if_pos rfl]
          exact bad (by rw [ho, decide_eq_false h0, Bool.false_and])
      | odd y k2 hk hn hb2 =>
        have ho : okP dl i y = false := by
          unfold okP
          rw [he]
          cases y <;> first | rfl | exact absurd rfl (hn _)
        rw [hk]
        try dsimp only
        rcases hb2 with hb2 | hb2
        · rw [hb2, Bool.not_false, if_pos rfl]
          exact bad ho
        · split
          · exact bad ho
          · rw [q_ix_lst hg]
            try dsimp only
            rw [hk]
            try dsimp only
            rw [hb2, if_pos rfl]
            exact bad ho
    · rw [decide_eq_true (show ((dl.length : Nat) : Int) ≤ (i : Int) by omega), if_pos rfl]
      refine bad ?_
      unfold okP
      rw [List.getElem?_eq_none (by omega)]
  · rintro τ G' ⟨rfl, ⟨x, rfl⟩, hb⟩
    rw [rgL_len] at hb
    have := wrong_none.mpr fun i hi => hb i (by omega)
    unfold wrongD at k
    rw [this] at k
    exact k
end
end K69
end

section
set_option Elab.async false
set_option linter.all false
set_option maxRecDepth 100000
set_option maxHeartbeats 1000000
namespace K69
open PySem PySem.Spec PyProof.Rows L2 L3 PP PT SX
/-! ### what a purse and a disk keep of each other -/
theorem pu_raw {pr : Addr} {c : Nat} {G : Gp} (h : Pu pr c G) : ∃ a b k, G pr = some (.lst [.int a, .int b, .int k]) := by
  obtain ⟨a, b, k, h1, _⟩ := h
  exact ⟨a, b, k, h1⟩
theorem pu_p {pr C p f q : Addr} {fs : FS} {dl : List Dd} {c : Nat} {G : Gp} (h : Pu pr c G) (d : DiskAt C p f q fs dl G) : p ≠ pr ∧ f ≠ pr ∧ q ≠ pr := by
  obtain ⟨a, b, k, h1⟩ := pu_raw h
  refine ⟨fun e => ?_, fun e => ?_, fun e => ?_⟩
  · have := d.at_; rw [e, h1] at this; cases this
  · have := d.fl; rw [e, h1] at this; cases this
  · have := d.qu
    rw [e, h1] at this
    cases dl with
    | nil => cases this
    | cons x l => cases x <;> cases this
theorem DiskAt.sb {pr C p f q : Addr} {fs : FS} {dl : List Dd} {c : Nat} {G G' : Gp} (d : DiskAt C p f q fs dl G) (h : Pu pr c G) (s : Sb pr G G') : DiskAt C p f q fs dl G' := by
  obtain ⟨h1, h2, h3⟩ := pu_p h d
  exact ⟨by rw [s _ h1]; exact d.at_, by rw [s _ h2]; exact d.fl, by rw [s _ h3]; exact d.qu⟩
theorem pu_kp {pr : Addr} {c : Nat} {G G' : Gp} {xs : List Addr} (h : Pu pr c G) (k : Kp xs G G') (hx : pr ∉ xs) : Pu pr c G' := by
  obtain ⟨a, b, n, h1, r⟩ := h
  exact ⟨a, b, n, k _ _ hx h1, r⟩
theorem lst_kp {G G' : Gp} {L : Addr} {o : GO} {xs : List Addr} (k : Kp xs G G') (hx : L ∉ xs) (h : G L = some o) : G' L = some o := k _ _ hx h
/-! ### deeds that wait -/
def sp_lwait (C : Addr) : Sp3 := fun ds G Q => ∃ pr p f q fd fs, ∃ n c : Nat, ds = [.ref pr, .ref p, fd, .int ((n : Nat) : Int)] ∧ DiskAt C p f q fs [] G ∧ dicOf G fd = some (fsD fs) ∧ (∀ G', dicOf G' fd = some (fsD fs)) ∧ FsOk fs ∧ fs.length ≤ 100 ∧ n ≤ 8 ∧ c ≤ 1000 ∧ Pu pr c G ∧
  ∀ dl G', dl.length = n → DlOk dl → DiskAt C p f q fs dl G' → Pu pr (c + 16 * n) G' → Kp [pr, q] G G' → Q (.lst (dl.map deD)) G'
theorem nm_get {a : Nat} (h : a < 4) : ∃ n, ([.str "h1", .str "h2", .str "s1.0", .str "a"] : List D)[a]? = some (.str n) ∧ n ∈ nmL := by
  have : a = 0 ∨ a = 1 ∨ a = 2 ∨ a = 3 := by omega
  rcases this with rfl | rfl | rfl | rfl
  · exact ⟨_, rfl, by simp [nmL]⟩
  · exact ⟨_, rfl, by simp [nmL]⟩
  · exact ⟨_, rfl, by simp [nmL]⟩
  · exact ⟨_, rfl, by simp [nmL]⟩
theorem p_lwait {K : PySem.W.Frag} {C : Addr} (cc : DkC K C) (ds : List D) (G : Gp) (Q : K3) (h : sp_lwait C ds G Q) : t__law_waiting sp_take sp_row sp_lseen C (sp_erase C) (sp_write C) (D0 Q) (start3 N__law_waiting ds) G := by
  obtain ⟨pr, p, f, q, fd, fs, n, c, rfl, hd, _, hf, hfs, hfl, hn, hc, hP, k⟩ := h
  have hz : sizeLine = 2 ^ 24 := rfl
  simp only [t__law_waiting, N__law_waiting, ss_for, u_sFor, u_lListRg, u_sRet, u_sRetN, ss_if, ss_asg, ss_drop, ss_ret, ss_retN, ss_next, ss_never, ss_break, ss_cont, ss_seq, ss_par, ss_aug, ss_gh, ss_fld, u_sIf, u_sNever, u_sNext, u_sDrop, u_sAsg, u_sPar, u_sAug, u_sGh, u_sBreak, u_sCont, u_lOp, u_lC, u_lVar, u_lTest, u_lNil, u_lCons, u_lAnd, u_lOr, u_lNot, u_lAndV, u_lOrV, u_lNotV, u_lIf, u_lChain, u_lTup, u_lLst, u_lLstG, u_lCB, u_lCall, u_lIsi, u_lIsi2, u_lSl, u_lNoPart, u_lPart, u_lNeg, u_lJoin, u_lSplit, u_lWords, u_gName3, u_gNil3, u_gCons3, u_gTup3, u_gStar3, u_gSub3, u_iLst3, u_iTup3, u_iStr3, u_iRg1, u_iRg2, u_iEnum3, u_iZip3, u_iZipT3, u_iZipS3, u_tYes3, u_lFld, u_lMeth, u_lMake, u_lFrz, u_lLm, u_lDNew, u_lDGet2, u_lDSetd, u_lCallA, u_sFld3, u_lDIn, u_lDIx, u_lDPop1, u_gDSub, u_gFld3, u_iLive, u_iZipL, u_iEnumQ3, u_lMethE, u_sRaise1, u_sRaise0, ss_raise1, ss_raise0, start3, List.map, List.append, List.length, List.replicate, List.set, List.cons_append, List.nil_append, List.getElem?_cons_zero, List.getElem?_cons_succ]
  refine ⟨by decide, fun L hL => ⟨⟨by omega, by omega⟩, ?_⟩⟩
  have nLp : L ≠ p := fun e => by rw [e, hd.at_] at hL; cases hL
  have nLf : L ≠ f := fun e => by rw [e, hd.fl] at hL; cases hL
  have nLq : L ≠ q := fun e => by rw [e, hd.qu] at hL; cases hL
  have nLr : L ≠ pr := fun e => by obtain ⟨_, _, _, h1⟩ := pu_raw hP; rw [e, h1] at hL; cases hL
  refine ⟨fun i τ G' => (∃ x y z, τ = [some (.ref pr), some (.ref p), some fd, some (.int (n : Int)), some (.ref L), x, y, z]) ∧ ∃ dl, dl.length = i ∧ DlOk dl ∧ DiskAt C p f q fs dl G' ∧ Pu pr (c + 16 * i) G' ∧ G' L = some (.lst (dl.map deD)) ∧ Kp [pr, q] G G', ⟨⟨_, _, _, rfl⟩, [], rfl, (by intro d h; cases h), hd.keep (Kp.new hL) (by simp) (by simp) (by simp), pu_kp hP (Kp.new hL) (by simp), gup_same, (Kp.new hL).mono (by simp)⟩, ?_, ?_⟩
  · rintro i d τ G1 hdi ⟨⟨x, y, z, rfl⟩, dl, hdl, ho, hd1, hP1, hL1, hK1⟩
    have hi := (List.getElem?_eq_some_iff.mp hdi).1
    rw [rgL_len] at hi
    simp only [u_lListRg, u_sRet, u_sRetN, ss_if, ss_asg, ss_drop, ss_ret, ss_retN, ss_next, ss_never, ss_break, ss_cont, ss_seq, ss_par, ss_aug, ss_gh, ss_fld, u_sIf, u_sNever, u_sNext, u_sDrop, u_sAsg, u_sPar, u_sAug, u_sGh, u_sBreak, u_sCont, u_lOp, u_lC, u_lVar, u_lTest, u_lNil, u_lCons, u_lAnd, u_lOr, u_lNot, u_lAndV, u_lOrV, u_lNotV, u_lIf, u_lChain, u_lTup, u_lLst, u_lLstG, u_lCB, u_lCall, u_lIsi, u_lIsi2, u_lSl, u_lNoPart, u_lPart, u_lNeg, u_lJoin, u_lSplit, u_lWords, u_gName3, u_gNil3, u_gCons3, u_gTup3, u_gStar3, u_gSub3, u_iLst3, u_iTup3, u_iStr3, u_iRg1, u_iRg2, u_iEnum3, u_iZip3, u_iZipT3, u_iZipS3, u_tYes3, u_lFld, u_lMeth, u_lMake, u_lFrz, u_lLm, u_lDNew, u_lDGet2, u_lDSetd, u_lCallA, u_sFld3, u_lDIn, u_lDIx, u_lDPop1, u_gDSub, u_gFld3, u_iLive, u_iZipL, u_iEnumQ3, u_lMethE, u_sRaise1, u_sRaise0, ss_raise1, ss_raise0, start3, List.map, List.append, List.length, List.replicate, List.set, List.cons_append, List.nil_append, List.getElem?_cons_zero, List.getElem?_cons_succ]
    refine ⟨by decide, pr, 4, c + 16 * i, rfl, by decide, by decide, by omega, hP1, fun a G2 ha hP2 hS2 => ?_⟩
    try dsimp only
    obtain ⟨m, hm, hmn⟩ := nm_get ha
    rw [q_ix_lst hm]
    try dsimp only
    have hd2 := hd1.sb hP1 hS2
    refine ⟨pr, 12, c + 16 * i + 1, rfl, by decide, by omega, hP2, fun r G3 hr1 hr2 hP3 hS3 => ?_⟩
    have hd3 := hd2.sb hP2 hS3
    have hra : Asc r := fun x hx => signs_asc x (hr2 x hx)
    try dsimp only
    refine ⟨pr, 3, c + 16 * i + 1 + 1 + 12, rfl, by decide, by decide, by omega, hP3, fun b G4 hb hP4 hS4 => ?_⟩
    have hd4 := hd3.sb hP3 hS4
    have hSS := (hS2.trans hS3).trans hS4
    have hL4 : G4 L = some (.lst (dl.map deD)) := by rw [hSS _ nLr]; exact hL1
    have hK4 : Kp [pr, q] G G4 := hK1.trans (Sb.kp hSS) (fun x hx => .inl (by rw [List.mem_singleton.mp hx]; simp))
    have hP5 : Pu pr (c + 16 * (i + 1)) G4 := hP4.up (by omega)
    have hn4 := nm_is m hmn
    try dsimp only
    rw [q_eq_int]
    try dsimp only
    have hqr : q ≠ pr := (pu_p hP4 hd4).2.2
    by_cases hb2 : (b : Int) = 2
    · rw [decide_eq_true hb2, if_pos rfl]
      refine ⟨fd, .ref L, fs, dl, rfl, hf G4, lst_ref hL4, ho, by omega, ?_⟩
      simp only [dicOf, keyD, val_fs, Bool.false_xor]
      cases e2 : getF (seenF fs dl) m with
      | some t2 =>
        simp only [Option.map_some, Option.isSome_some, if_true]
        refine ⟨_, ins_ref hd4.at_, rfl, p, f, q, fs, dl, m, rfl, hd4, by omega, ho.sm, by omega, hn4.1, by rw [e2]; rfl, fun G5 hd5 hK5 => ?_⟩
        have hL5 : G5 L = some (.lst (dl.map deD)) := hK5 _ _ (by simpa using nLq) hL4
        simp only [hL5, rApp3]
        refine ⟨by decide, by rw [List.length_map]; omega, ⟨_, _, _, rfl⟩, dl ++ [.er m], by rw [List.length_append, hdl]; rfl, ?_, ⟨?_, ?_, ?_⟩, ?_, ?_, ?_⟩
        · intro d hd
          rcases List.mem_append.mp hd with hd | hd
          · exact ho d hd
          · rw [List.mem_singleton.mp hd]; exact hmn
        · rw [gup_ne (Ne.symm nLp)]; exact hd5.at_
        · rw [gup_ne (Ne.symm nLf)]; exact hd5.fl
        · rw [gup_ne (Ne.symm nLq)]; exact hd5.qu
        · exact pu_gup (pu_kp hP5 hK5 (by simpa using Ne.symm hqr)) nLr
        · rw [gup_same, List.map_append]; rfl
        · exact (hK4.trans hK5 (fun x hx => .inl (by rw [List.mem_singleton.mp hx]; simp))).trans (ys := [L]) Kp.wr (fun x hx => .inr (by rw [List.mem_singleton.mp hx]; exact hL))
      | none =>
        simp only [Option.map_none, Option.isSome_none, Bool.false_eq_true, if_false]
        refine ⟨_, ins_ref hd4.at_, rfl, p, f, q, fs, dl, m, S r, rfl, hd4, by omega, by omega, hn4.1, ?_⟩
        simp only [gup_ne nLq, hL4, rApp3]
        refine ⟨by decide, by rw [List.length_map]; omega, ⟨_, _, _, rfl⟩, dl ++ [.wr m (S r)], by rw [List.length_append, hdl]; rfl, ?_, ⟨?_, ?_, ?_⟩, ?_, ?_, ?_⟩
        · intro d hd
          rcases List.mem_append.mp hd with hd | hd
          · exact ho d hd
          · rw [List.mem_singleton.mp hd]; exact ⟨hmn, r, rfl, hra, hr1⟩
        · rw [gup_ne (Ne.symm nLp), gup_ne (Ne.symm hd4.pq)]; exact hd4.at_
        · rw [gup_ne (Ne.symm nLf), gup_ne (Ne.symm hd4.fq)]; exact hd4.fl
        · rw [gup_ne (Ne.symm nLq), gup_same]
        · exact pu_gup (pu_gup hP5 hqr) nLr
        · rw [gup_same, List.map_append]; rfl
        · exact (hK4.trans (ys := [q]) Kp.wr (fun x hx => .inl (by rw [List.mem_singleton.mp hx]; simp))).trans (ys := [L]) Kp.wr (fun x hx => .inr (by rw [List.mem_singleton.mp hx]; exact hL))
    · rw [decide_eq_false hb2, if_neg Bool.false_ne_true]
      refine ⟨_, ins_ref hd4.at_, rfl, p, f, q, fs, dl, m, S r, rfl, hd4, by omega, by omega, hn4.1, ?_⟩
      simp only [gup_ne nLq, hL4, rApp3]
      refine ⟨by decide, by rw [List.length_map]; omega, ⟨_, _, _, rfl⟩, dl ++ [.wr m (S r)], by rw [List.length_append, hdl]; rfl, ?_, ⟨?_, ?_, ?_⟩, ?_, ?_, ?_⟩
      · intro d hd
        rcases List.mem_append.mp hd with hd | hd
        · exact ho d hd
        · rw [List.mem_singleton.mp hd]; exact ⟨hmn, r, rfl, hra, hr1⟩
      · rw [gup_ne (Ne.symm nLp), gup_ne (Ne.symm hd4.pq)]; exact hd4.at_
      · rw [gup_ne (Ne.symm nLf), gup_ne (Ne.symm hd4.fq)]; exact hd4.fl
      · rw [gup_ne (Ne.symm nLq), gup_same]
      · exact pu_gup (pu_gup hP5 hqr) nLr
      · rw [gup_same, List.map_append]; rfl
      · exact (hK4.trans (ys := [q]) Kp.wr (fun x hx => .inl (by rw [List.mem_singleton.mp hx]; simp))).trans (ys := [L]) Kp.wr (fun x hx => .inr (by rw [List.mem_singleton.mp hx]; exact hL))
  · rintro τ G1 ⟨⟨x, y, z, rfl⟩, dl, hdl, ho, hd1, hP1, hL1, hK1⟩
    rw [rgL_len] at hdl hP1
    simp only [sFrz, u_lListRg, u_sRet, u_sRetN, ss_if, ss_asg, ss_drop, ss_ret, ss_retN, ss_next, ss_never, ss_break, ss_cont, ss_seq, ss_par, ss_aug, ss_gh, ss_fld, u_sIf, u_sNever, u_sNext, u_sDrop, u_sAsg, u_sPar, u_sAug, u_sGh, u_sBreak, u_sCont, u_lOp, u_lC, u_lVar, u_lTest, u_lNil, u_lCons, u_lAnd, u_lOr, u_lNot, u_lAndV, u_lOrV, u_lNotV, u_lIf, u_lChain, u_lTup, u_lLst, u_lLstG, u_lCB, u_lCall, u_lIsi, u_lIsi2, u_lSl, u_lNoPart, u_lPart, u_lNeg, u_lJoin, u_lSplit, u_lWords, u_gName3, u_gNil3, u_gCons3, u_gTup3, u_gStar3, u_gSub3, u_iLst3, u_iTup3, u_iStr3, u_iRg1, u_iRg2, u_iEnum3, u_iZip3, u_iZipT3, u_iZipS3, u_tYes3, u_lFld, u_lMeth, u_lMake, u_lFrz, u_lLm, u_lDNew, u_lDGet2, u_lDSetd, u_lCallA, u_sFld3, u_lDIn, u_lDIx, u_lDPop1, u_gDSub, u_gFld3, u_iLive, u_iZipL, u_iEnumQ3, u_lMethE, u_sRaise1, u_sRaise0, ss_raise1, ss_raise0, start3, List.map, List.append, List.length, List.replicate, List.set, List.cons_append, List.nil_append, List.getElem?_cons_zero, List.getElem?_cons_succ, hL1]
    refine k dl _ (by omega) ho ⟨?_, ?_, ?_⟩ ?_ ?_
    · rw [gdel_ne (Ne.symm nLp)]; exact hd1.at_
    · rw [gdel_ne (Ne.symm nLf)]; exact hd1.fl
    · rw [gdel_ne (Ne.symm nLq)]; exact hd1.qu
    · exact pu_gdel (hP1.up (by omega)) nLr
    · exact hK1.trans (ys := [L]) Kp.del (fun x hx => .inr (by rw [List.mem_singleton.mp hx]; exact hL))
end K69
end

section
set_option Elab.async false
set_option linter.all false
set_option maxRecDepth 100000
set_option maxHeartbeats 1000000
namespace K69
open PySem PySem.Spec PyProof.Rows L2 L3 PP PT SX
/-! ### a list from a walk that only adds things -/
theorem lLc_kp {te : TE3} {i : Nat} {vs : List Nat} {τ : T3} {G : Gp} {Q : K3} {li : TI3} (f : D → D) (Z : List D → Prop)
    (hli : ∀ R : List D → Gp → Prop, (∀ ds G1, Z ds → ds.length ≤ 4096 → Kp [] G G1 → R ds G1) → li τ G R)
    (he : ∀ (ds : List D) (j : Nat) d (G' : Gp), Z ds → ds[j]? = some d → Kp [] G G' → ∀ Q' : K3, (∀ G'', Kp [] G' G'' → Q' (f d) G'') → te ((wipe3 τ vs).set i (some d)) G' Q')
    (q : ∀ ds G', Z ds → Kp [] G G' → Q (.lst (ds.map f)) G') : lLc li (gName3 i) tYes3 te vs τ G Q := by
  refine hli _ fun ds G1 hZ hl hK L hL => ?_
  have hz : sizeLine = 2 ^ 24 := rfl
  have hL0 : G L = none := by
    cases e : G L with
    | none => rfl
    | some o => have := hK L o (by simp) e; rw [hL] at this; cases this
  refine ⟨fun j acc G' => acc = (ds.take j).map f ∧ G' L = some (.lst acc) ∧ Kp [] G G', ⟨rfl, gup_same, hK.trans (Kp.new hL) (by simp)⟩, ?_, ?_⟩
  · rintro j d acc G' hd ⟨rfl, h1, h2⟩
    simp only [gName3, tYes3, if_true]
    refine he ds j d G' hZ hd h2 _ fun G'' k => ⟨k _ _ (by simp) h1, ?_, ?_, gup_same, ?_⟩
    · have h1 := (List.getElem?_eq_some_iff.mp hd).1
      rw [List.length_map, List.length_take]; omega
    · rw [List.take_add_one, hd]; simp
    · exact (h2.trans k (by simp)).trans (ys := [L]) Kp.wr (fun x hx => .inr (by rw [List.mem_singleton.mp hx]; exact hL0))
  · rintro acc G' ⟨rfl, h1, h2⟩
    rw [List.take_length] at h1 ⊢
    exact ⟨h1, q ds _ hZ (h2.trans (ys := [L]) Kp.del (fun x hx => .inr (by rw [List.mem_singleton.mp hx]; exact hL0)))⟩
/-! ### a disk that is as it should be -/
theorem good_nms {ys : List Str} (h : ∀ y ∈ ys, y ∈ nmL) : Good (.lst (ys.map .str)) := by
  refine (good_lst (n := 62) fun x hx => ?_).imp id fun h => Nat.le_trans h (by decide)
  obtain ⟨y, hy, rfl⟩ := List.mem_map.mp hx
  have := (nm_is y (h y hy)).2.2
  simp [py, PyData.canLay0, PyData.depth, this]
theorem good_txs {ys : List Str} (h : ∀ y ∈ ys, TxOk y) : Good (.lst (ys.map .str)) := by
  refine (good_lst (n := 62) fun x hx => ?_).imp id fun h => Nat.le_trans h (by decide)
  obtain ⟨y, hy, rfl⟩ := List.mem_map.mp hx
  obtain ⟨r, rfl, ha, _⟩ := h y hy
  exact good_str ha _
theorem q_eq_good {d : D} {G : Gp} {Q : K3} (h : Good d) : rEq3 d d G Q = Q (.bl true) G := by
  have ok : okD d := by
    show (_ && decide _) = true
    rw [h.1, decide_eq_true h.2]; rfl
  have e : eqD d d = true := SeqAt.eqv_refl _ h.1
  rw [q_eq_ok ok ok, e]
def sp_isso (C : Addr) : Sp3 := fun ds G Q => ∃ p f q fs dl, ds = [.ref p, .dic (fsD (seenF fs dl)), .int (dl.length : Nat)] ∧ DiskAt C p f q fs dl G ∧ FsOk fs ∧ DlOk dl ∧ fs.length + dl.length < 60 ∧ ∀ G', Kp [] G G' → Q (.bl true) G'
theorem p_isso {C : Addr} (ds : List D) (G : Gp) (Q : K3) (h : sp_isso C ds G Q) : t__law_is_so C (sp_waitg C) (sp_names C) (sp_read C) (D0 Q) (start3 N__law_is_so ds) G := by
  obtain ⟨p, f, q, fs, dl, rfl, hd, hf, ho, hl, k⟩ := h
  have hz : sizeLine = 2 ^ 24 := rfl
  have hs := seen_ok hf ho
  have hsl := seen_len dl fs
  have hmem : ∀ {ys : List Str}, ys.Perm ((seenF fs dl).map (·.1)) → ∀ y ∈ ys, y ∈ nmL ∧ ∃ t, getF (seenF fs dl) y = some t ∧ TxOk t := fun hp y hy => by
    have h1 := hp.subset hy
    obtain ⟨t, ht⟩ := get_some h1
    obtain ⟨x, hx, rfl, rfl⟩ := get_mem ht
    exact ⟨(hs x hx).1, _, ht, (hs x hx).2⟩
  simp only [t__law_is_so, N__law_is_so, u_lListRg, u_sRet, u_sRetN, ss_if, ss_asg, ss_drop, ss_ret, ss_retN, ss_next, ss_never, ss_break, ss_cont, ss_seq, ss_par, ss_aug, ss_gh, ss_fld, u_sIf, u_sNever, u_sNext, u_sDrop, u_sAsg, u_sPar, u_sAug, u_sGh, u_sBreak, u_sCont, u_lOp, u_lC, u_lVar, u_lTest, u_lNil, u_lCons, u_lAnd, u_lOr, u_lNot, u_lAndV, u_lOrV, u_lNotV, u_lIf, u_lChain, u_lTup, u_lLst, u_lLstG, u_lCB, u_lCall, u_lIsi, u_lIsi2, u_lSl, u_lNoPart, u_lPart, u_lNeg, u_lJoin, u_lSplit, u_lWords, u_gName3, u_gNil3, u_gCons3, u_gTup3, u_gStar3, u_gSub3, u_iLst3, u_iTup3, u_iStr3, u_iRg1, u_iRg2, u_iEnum3, u_iZip3, u_iZipT3, u_iZipS3, u_tYes3, u_lFld, u_lMeth, u_lMake, u_lFrz, u_lLm, u_lDNew, u_lDGet2, u_lDSetd, u_lCallA, u_sFld3, u_lDIn, u_lDIx, u_lDPop1, u_gDSub, u_gFld3, u_iLive, u_iZipL, u_iEnumQ3, u_lMethE, u_sRaise1, u_sRaise0, ss_raise1, ss_raise0, start3, List.map, List.append, List.length, List.replicate, List.set, List.cons_append, List.nil_append, List.getElem?_cons_zero, List.getElem?_cons_succ]
  refine ⟨_, ins_ref hd.at_, rfl, p, f, q, fs, dl, rfl, hd, ?_⟩
  show rNe3 (.int _) (.int _) _ _
  rw [q_ne_int, decide_eq_true rfl]
  try dsimp only
  rw [Bool.not_true, if_neg Bool.false_ne_true]
  refine ⟨_, ins_ref hd.at_, rfl, p, f, q, fs, dl, rfl, hd, by omega, ho.sm, by omega, fun ys G1 hp hso hK1 => ?_⟩
  have hd1 := hd.keep hK1 (by simp) (by simp) (by simp)
  simp only [rSortD3, dicOf]
  refine ⟨_, keys_fs _, by rw [List.length_map]; omega, fun zs hp2 hso2 => ?_⟩
  obtain rfl := sort_one hp hp2 hso hso2
  rw [q_ne_good (good_nms fun y hy => (hmem hp y hy).1)]
  try dsimp only
  rw [if_neg Bool.false_ne_true]
  let g : D → D := fun d => match d with
    | .str n => .str ((getF (seenF fs dl) n).getD "")
    | _ => .non
  let Z : List D → Prop := fun ds => ds = ys.map .str
  have hli : ∀ (τ : T3) (G2 : Gp) (R : List D → Gp → Prop), τ[1]? = some (some (.dic (fsD (seenF fs dl)))) → (∀ ds G1, Z ds → ds.length ≤ 4096 → Kp [] G2 G1 → R ds G1) → iLst3 (lCB rSortD3 (lCons (lVar 1) lNil)) τ G2 R := by
    intro τ G2 R hτ hR
    simp only [u_lListRg, u_sRet, u_sRetN, ss_if, ss_asg, ss_drop, ss_ret, ss_retN, ss_next, ss_never, ss_break, ss_cont, ss_seq, ss_par, ss_aug, ss_gh, ss_fld, u_sIf, u_sNever, u_sNext, u_sDrop, u_sAsg, u_sPar, u_sAug, u_sGh, u_sBreak, u_sCont, u_lOp, u_lC, u_lVar, u_lTest, u_lNil, u_lCons, u_lAnd, u_lOr, u_lNot, u_lAndV, u_lOrV, u_lNotV, u_lIf, u_lChain, u_lTup, u_lLst, u_lLstG, u_lCB, u_lCall, u_lIsi, u_lIsi2, u_lSl, u_lNoPart, u_lPart, u_lNeg, u_lJoin, u_lSplit, u_lWords, u_gName3, u_gNil3, u_gCons3, u_gTup3, u_gStar3, u_gSub3, u_iLst3, u_iTup3, u_iStr3, u_iRg1, u_iRg2, u_iEnum3, u_iZip3, u_iZipT3, u_iZipS3, u_tYes3, u_lFld, u_lMeth, u_lMake, u_lFrz, u_lLm, u_lDNew, u_lDGet2, u_lDSetd, u_lCallA, u_sFld3, u_lDIn, u_lDIx, u_lDPop1, u_gDSub, u_gFld3, u_iLive, u_iZipL, u_iEnumQ3, u_lMethE, u_sRaise1, u_sRaise0, ss_raise1, ss_raise0, start3, List.map, List.append, List.length, List.replicate, List.set, List.cons_append, List.nil_append, List.getElem?_cons_zero, List.getElem?_cons_succ, hτ, rSortD3, dicOf]
    refine ⟨_, keys_fs _, by rw [List.length_map]; omega, fun zs hp2 hso2 => ?_⟩
    obtain rfl := sort_one hp hp2 hso hso2
    refine hR _ G2 rfl ?_ (Kp.refl _ _)
    have := hp.length_eq
    rw [List.length_map] at this ⊢
    omega
  refine lLc_kp g Z (fun R hR => hli _ _ R rfl hR) ?_ ?_
  · rintro ds j d G2 rfl hdj hK2 Q' hQ'
    have hd2 := hd1.keep hK2 (by simp) (by simp) (by simp)
    rw [List.getElem?_map] at hdj
    cases e : ys[j]? with
    | none => rw [e] at hdj; cases hdj
    | some n =>
      rw [e] at hdj
      cases hdj
      obtain ⟨hn, t, ht, _⟩ := hmem hp n (List.mem_of_getElem? e)
      have hn4 := nm_is n hn
      simp only [u_lListRg, u_sRet, u_sRetN, ss_if, ss_asg, ss_drop, ss_ret, ss_retN, ss_next, ss_never, ss_break, ss_cont, ss_seq, ss_par, ss_aug, ss_gh, ss_fld, u_sIf, u_sNever, u_sNext, u_sDrop, u_sAsg, u_sPar, u_sAug, u_sGh, u_sBreak, u_sCont, u_lOp, u_lC, u_lVar, u_lTest, u_lNil, u_lCons, u_lAnd, u_lOr, u_lNot, u_lAndV, u_lOrV, u_lNotV, u_lIf, u_lChain, u_lTup, u_lLst, u_lLstG, u_lCB, u_lCall, u_lIsi, u_lIsi2, u_lSl, u_lNoPart, u_lPart, u_lNeg, u_lJoin, u_lSplit, u_lWords, u_gName3, u_gNil3, u_gCons3, u_gTup3, u_gStar3, u_gSub3, u_iLst3, u_iTup3, u_iStr3, u_iRg1, u_iRg2, u_iEnum3, u_iZip3, u_iZipT3, u_iZipS3, u_tYes3, u_lFld, u_lMeth, u_lMake, u_lFrz, u_lLm, u_lDNew, u_lDGet2, u_lDSetd, u_lCallA, u_sFld3, u_lDIn, u_lDIx, u_lDPop1, u_gDSub, u_gFld3, u_iLive, u_iZipL, u_iEnumQ3, u_lMethE, u_sRaise1, u_sRaise0, ss_raise1, ss_raise0, start3, List.map, List.append, List.length, List.replicate, List.set, List.cons_append, List.nil_append, List.getElem?_cons_zero, List.getElem?_cons_succ, wipe3]
      refine ⟨_, ins_ref hd2.at_, rfl, p, f, q, fs, dl, n, t, rfl, hd2, by omega, ho.sm, by omega, hn4.1, ht, fun G3 hK3 => ?_⟩
      have eg : g (.str n) = .str t := by show D.str ((getF (seenF fs dl) n).getD "") = _; rw [ht]; rfl
      rw [← eg]
      exact hQ' G3 hK3
  · rintro ds G2 rfl hK2
    refine lLc_kp g Z (fun R hR => hli _ _ R rfl hR) ?_ ?_
    · rintro ds j d G3 rfl hdj hK3 Q' hQ'
      rw [List.getElem?_map] at hdj
      cases e : ys[j]? with
      | none => rw [e] at hdj; cases hdj
      | some n =>
        rw [e] at hdj
        cases hdj
        obtain ⟨hn, t, ht, _⟩ := hmem hp n (List.mem_of_getElem? e)
        simp only [u_lListRg, u_sRet, u_sRetN, ss_if, ss_asg, ss_drop, ss_ret, ss_retN, ss_next, ss_never, ss_break, ss_cont, ss_seq, ss_par, ss_aug, ss_gh, ss_fld, u_sIf, u_sNever, u_sNext, u_sDrop, u_sAsg, u_sPar, u_sAug, u_sGh, u_sBreak, u_sCont, u_lOp, u_lC, u_lVar, u_lTest, u_lNil, u_lCons, u_lAnd, u_lOr, u_lNot, u_lAndV, u_lOrV, u_lNotV, u_lIf, u_lChain, u_lTup, u_lLst, u_lLstG, u_lCB, u_lCall, u_lIsi, u_lIsi2, u_lSl, u_lNoPart, u_lPart, u_lNeg, u_lJoin, u_lSplit, u_lWords, u_gName3, u_gNil3, u_gCons3, u_gTup3, u_gStar3, u_gSub3, u_iLst3, u_iTup3, u_iStr3, u_iRg1, u_iRg2, u_iEnum3, u_iZip3, u_iZipT3, u_iZipS3, u_tYes3, u_lFld, u_lMeth, u_lMake, u_lFrz, u_lLm, u_lDNew, u_lDGet2, u_lDSetd, u_lCallA, u_sFld3, u_lDIn, u_lDIx, u_lDPop1, u_gDSub, u_gFld3, u_iLive, u_iZipL, u_iEnumQ3, u_lMethE, u_sRaise1, u_sRaise0, ss_raise1, ss_raise0, start3, List.map, List.append, List.length, List.replicate, List.set, List.cons_append, List.nil_append, List.getElem?_cons_zero, List.getElem?_cons_succ, wipe3, dicOf, keyD, val_fs, ht]
        refine ⟨.str t, rfl, ?_⟩
        have eg : g (.str n) = .str t := by show D.str ((getF (seenF fs dl) n).getD "") = _; rw [ht]; rfl
        rw [← eg]
        exact hQ' G3 (Kp.refl _ _)
    · rintro ds G3 rfl hK3
      have eq : (ys.map D.str).map g = (ys.map fun n => (getF (seenF fs dl) n).getD "").map .str := by
        rw [List.map_map, List.map_map]; rfl
      rw [eq, q_eq_good (good_txs fun t ht => ?_)]
      · exact k G3 ((hK1.trans hK2 (by simp)).trans hK3 (by simp))
      · obtain ⟨n, hn, rfl⟩ := List.mem_map.mp ht
        obtain ⟨_, t, ht, hok⟩ := hmem hp n hn
        rw [ht]; exact hok
end K69
end

section
set_option Elab.async false
set_option linter.all false
set_option maxRecDepth 100000
set_option maxHeartbeats 1000000
namespace PT
open PySem PySem.Spec PyProof.Rows L2 L3 PP
/-! ### how long a thing's text is -/
mutual
def wt : D → Nat
  | .str x => 1 + x.length
  | .lst xs => 1 + wtL xs
  | .tup xs => 1 + wtL xs
  | _ => 1
def wtL : List D → Nat
  | [] => 0
  | x :: xs => wt x + wtL xs
end
mutual
def intB (k : Nat) : D → Bool
  | .int i => decide (i.natAbs < 10 ^ k)
  | .lst xs => intBL k xs
  | .tup xs => intBL k xs
  | _ => true
def intBL (k : Nat) : List D → Bool
  | [] => true
  | x :: xs => intB k x && intBL k xs
end
theorem intBL_iff {k : Nat} : ∀ {xs : List D}, intBL k xs = true ↔ ∀ x ∈ xs, intB k x = true
  | [] => by simp [intBL]
  | x :: xs => by
    unfold intBL
    rw [Bool.and_eq_true, intBL_iff]
    simp
theorem wt_pos (d : D) : 1 ≤ wt d := by cases d <;> simp [wt] <;> omega
theorem wtL_append : ∀ {xs ys : List D}, wtL (xs ++ ys) = wtL xs + wtL ys
  | [], ys => by simp [wtL]
  | x :: xs, ys => by
    show wt x + wtL (xs ++ ys) = wt x + wtL xs + wtL ys
    rw [wtL_append]; omega
theorem wtL_mem {xs : List D} {x : D} (h : x ∈ xs) : wt x ≤ wtL xs := by
  induction xs with
  | nil => cases h
  | cons y ys ih =>
    show wt x ≤ wt y + wtL ys
    rcases List.mem_cons.mp h with rfl | h
    · omega
    · have := ih h; omega
theorem wtL_len : ∀ {xs : List D}, xs.length ≤ wtL xs
  | [] => Nat.zero_le _
  | x :: xs => by
    have h1 := wt_pos x
    have h2 := wtL_len (xs := xs)
    show xs.length + 1 ≤ wt x + wtL xs
    omega
theorem join_le (ts : List Str) : (Str.join ", " ts).length ≤ piled ts := by
  cases ts with
  | nil => decide
  | cons t r =>
    have := join_length_add (t :: r) (by simp)
    omega
theorem listText_le (ts : List Str) : (listText ts).length ≤ piled ts + 2 := by
  cases ts with
  | nil => decide
  | cons t r =>
    have h := textFrom_length_pos r 1 (("[" : Str) ++ (if (0 : Nat) > 0 then ", " else "" : String) ++ t) (Nat.succ_pos 0)
    have e : ((("[" : Str) ++ (if (0 : Nat) > 0 then ", " else "" : String) ++ t)).length = 1 + t.length := by
      rw [strLen_append, strLen_append]
      have a1 : (Str.ofString "[").length = 1 := by decide
      have a2 : (Str.ofString (if (0 : Nat) > 0 then ", " else "")).length = 0 := by decide
      omega
    have hX : (listText (t :: r)).length = (textFrom 0 "[" (t :: r)).length + 1 := by
      have a1 : (Str.ofString "]").length = 1 := by decide
      unfold listText
      rw [strLen_append, a1]
    have hY : (textFrom 0 "[" (t :: r)).length = (textFrom 1 (("[" : Str) ++ (if (0 : Nat) > 0 then ", " else "" : String) ++ t) r).length := rfl
    rw [hX, hY, h, e, piled_cons]
    omega
theorem tupleText_le (ts : List Str) : (tupleText ts).length ≤ piled ts + 3 := by
  unfold tupleText
  rw [strLen_append, strLen_append]
  have h := join_le ts
  have a1 : (Str.ofString "(").length = 1 := by decide
  have a2 : (Str.ofString (if (ts.length == 1) = true then ",)" else ")")).length ≤ 2 := by
    split <;> decide
  omega
theorem int_len {i : Int} (h : intB 100 (.int i) = true) : (Str.ofString (toString i)).length ≤ 101 := by
  have h1 := of_decide_eq_true h
  have h2 := int_text_length_le10 (k := 100) (by decide) h1
  rw [PySem.ofString_length]; omega
theorem int_show {i : Int} (h : intB 100 (.int i) = true) : (PyData.int i).showable = true := by
  have h1 : i.natAbs < 10 ^ 100 := of_decide_eq_true h
  show decide (i.natAbs.log2 < 1920) = true
  refine decide_eq_true ?_
  by_cases h0 : i.natAbs = 0
  · rw [h0]; decide
  · have h2 : i.natAbs < 2 ^ 1920 := Nat.lt_trans h1 (by decide +kernel)
    exact (Nat.log2_lt h0).mpr h2
theorem str_len {n : Nat} {x : Str} (h : fine n (.str x) = true) : (reprText x).length ≤ 10 * x.length + 2 := by
  have h1 := (fine_str h).1
  refine StrLaws.reprText_len x fun c hc => ?_
  have h2 : c < 0x110000 := by
    have h3 : x.cps.all (fun c => decide (c < 0x110000)) = true := h1
    rw [← Array.all_toList] at h3
    exact of_decide_eq_true (List.all_eq_true.mp h3 c hc)
  omega
theorem shown_le : ∀ (n : Nat) (d : D), fine n d = true → intB 100 d = true → (py d).shown.length + 2 ≤ 110 * wt d ∧ (py d).showable = true ∧ (py d).depth ≤ n := by
  intro n
  induction n with
  | zero =>
    intro d hf hi
    cases d with
    | non => exact ⟨by decide, rfl, Nat.le_refl _⟩
    | bl b => cases b <;> exact ⟨by decide, rfl, Nat.le_refl _⟩
    | int i =>
      have := int_len hi
      refine ⟨?_, int_show hi, Nat.zero_le _⟩
      show (Str.ofString (toString i)).length + 2 ≤ 110 * 1
      omega
    | str x =>
      have := str_len hf
      refine ⟨?_, rfl, Nat.zero_le _⟩
      show (reprText x).length + 2 ≤ 110 * (1 + x.length)
      omega
    | _ => cases hf
  | succ n ih =>
    intro d hf hi
    have lst : ∀ xs : List D, (∀ x ∈ xs, fine n x = true) → intBL 100 xs = true → piled (PyData.shownAll (pys xs)) ≤ 110 * wtL xs ∧ PyData.showableAll (pys xs) = true ∧ PyData.depthAll (pys xs) ≤ n := by
      intro xs
      induction xs with
      | nil => intro _ _; exact ⟨Nat.zero_le _, rfl, Nat.zero_le _⟩
      | cons x xs ih2 =>
        intro h1 h2
        have h3 := intBL_iff.mp h2
        obtain ⟨a1, a2, a3⟩ := ih x (h1 x List.mem_cons_self) (h3 x List.mem_cons_self)
        obtain ⟨b1, b2, b3⟩ := ih2 (fun y hy => h1 y (List.mem_cons_of_mem _ hy)) (intBL_iff.mpr fun y hy => h3 y (List.mem_cons_of_mem _ hy))
        refine ⟨?_, ?_, ?_⟩
        · show piled ((py x).shown :: PyData.shownAll (pys xs)) ≤ 110 * (wt x + wtL xs)
          rw [piled_cons]; omega
        · show ((py x).showable && PyData.showableAll (pys xs)) = true
          rw [a2, b2]; rfl
        · show max (py x).depth (PyData.depthAll (pys xs)) ≤ n
          omega
    cases d with
    | non => exact ⟨by decide, rfl, Nat.zero_le _⟩
    | bl b => cases b <;> exact ⟨by decide, rfl, Nat.zero_le _⟩
    | int i =>
      have := int_len hi
      refine ⟨?_, int_show hi, Nat.zero_le _⟩
      show (Str.ofString (toString i)).length + 2 ≤ 110 * 1
      omega
    | str x =>
      have := str_len hf
      refine ⟨?_, rfl, Nat.zero_le _⟩
      show (reprText x).length + 2 ≤ 110 * (1 + x.length)
      omega
    | lst xs =>
      obtain ⟨m, e, h1, h2⟩ := fine_lst hf
      cases e
      obtain ⟨a1, a2, a3⟩ := lst xs h2 hi
      refine ⟨?_, a2, ?_⟩
      · have := listText_le (PyData.shownAll (pys xs))
        show (listText (PyData.shownAll (pys xs))).length + 2 ≤ 110 * (1 + wtL xs)
        omega
      · show PyData.depthAll (pys xs) + 1 ≤ n + 1
        omega
    | tup xs =>
      obtain ⟨m, e, h1, h2⟩ := fine_tup hf
      cases e
      obtain ⟨a1, a2, a3⟩ := lst xs h2 hi
      refine ⟨?_, a2, ?_⟩
      · have := tupleText_le (PyData.shownAll (pys xs))
        show (tupleText (PyData.shownAll (pys xs))).length + 2 ≤ 110 * (1 + wtL xs)
        omega
      · show PyData.depthAll (pys xs) + 1 ≤ n + 1
        omega
    | _ => cases hf
end PT
end

section
set_option Elab.async false
set_option linter.all false
set_option maxRecDepth 100000
set_option maxHeartbeats 1000000
namespace K69
open PySem PySem.Spec PyProof.Rows L2 L3 PP PT SX
/-! ### picks that are handed in -/
def PkR (d : D) : Prop := PkOk d ∧ fine 1 d = true ∧ intB 100 d = true ∧ wt d ≤ 3
theorem pkr_int {n : Int} (h : n.natAbs < 10 ^ 30) : PkR (.int n) := ⟨.int n, rfl, decide_eq_true (Nat.lt_trans h (by decide)), (show (1 : Nat) ≤ 3 by decide)⟩
theorem pkr_odd {i : Nat} {m : Int} (h0 : 0 ≤ m) (h1 : m ≤ 13) (hi : i < 8) : ∃ d, ([.int (m + 1), .int (-1), .bl true, .non, .str "1", .tup [.int 1], .int (m + 10 ^ 20), .bl false] : List D)[i]? = some d ∧ PkR d := by
  have : i = 0 ∨ i = 1 ∨ i = 2 ∨ i = 3 ∨ i = 4 ∨ i = 5 ∨ i = 6 ∨ i = 7 := by omega
  rcases this with rfl | rfl | rfl | rfl | rfl | rfl | rfl | rfl
  · exact ⟨_, rfl, pkr_int (by omega)⟩
  · exact ⟨_, rfl, pkr_int (by decide)⟩
  · exact ⟨_, rfl, .odd _ .bool (fun _ => rfl) (fun _ h => by cases h) (.inr rfl), rfl, rfl, by decide⟩
  · exact ⟨_, rfl, .odd _ .non (fun _ => rfl) (fun _ h => by cases h) (.inl rfl), rfl, rfl, by decide⟩
  · exact ⟨_, rfl, .odd _ .str (fun _ => rfl) (fun _ h => by cases h) (.inl rfl), by decide +kernel, rfl, by decide +kernel⟩
  · exact ⟨_, rfl, .odd _ .tuple (fun _ => rfl) (fun _ h => by cases h) (.inl rfl), by decide, by decide, by decide⟩
  · exact ⟨_, rfl, pkr_int (by have : ((10 : Int) ^ 20) = 100000000000000000000 := by decide
                               omega)⟩
  · exact ⟨_, rfl, .odd _ .bool (fun _ => rfl) (fun _ h => by cases h) (.inr rfl), rfl, rfl, by decide⟩
theorem wtL_le {n : Nat} : ∀ {xs : List D}, (∀ x ∈ xs, wt x ≤ n) → wtL xs ≤ n * xs.length
  | [], _ => Nat.zero_le _
  | x :: xs, h => by
    have h1 := h x List.mem_cons_self
    have h2 := wtL_le (n := n) fun y hy => h y (List.mem_cons_of_mem _ hy)
    show wt x + wtL xs ≤ n * (xs.length + 1)
    rw [Nat.mul_succ]; omega
/-- what repr asks -/
theorem pks_repr {ps : List D} (h : ∀ d ∈ ps, PkR d) (hl : ps.length ≤ 100) (x : D) (hx : x = .lst ps ∨ x = .tup ps) : (py x).canLay0 = true ∧ (py x).showable = true ∧ (py x).shown.length ≤ sizeLine ∧ (py x).depth ≤ 100 := by
  have hz : sizeLine = 2 ^ 24 := rfl
  have hw := wtL_le fun y hy => (h y hy).2.2.2
  have hi : intBL 100 ps = true := intBL_iff.mpr fun y hy => (h y hy).2.2.1
  have hfa : ps.all (fine 1) = true := List.all_eq_true.mpr fun y hy => (h y hy).2.1
  rcases hx with rfl | rfl
  · have hf : fine 2 (.lst ps) = true := by
      show (decide (ps.length ≤ 4096) && ps.all (fine 1)) = true
      rw [hfa, decide_eq_true (by omega)]; rfl
    obtain ⟨h1, h2, h3⟩ := shown_le 2 _ hf hi
    have hw2 : wt (.lst ps) = 1 + wtL ps := rfl
    have ok := fine_ok hf (by decide)
    have ok' : ((py (.lst ps)).canLay0 && decide _) = true := ok
    rw [Bool.and_eq_true] at ok'
    exact ⟨ok'.1, h2, by omega, by omega⟩
  · have hf : fine 2 (.tup ps) = true := by
      show (decide (ps.length ≤ 4096) && ps.all (fine 1)) = true
      rw [hfa, decide_eq_true (by omega)]; rfl
    obtain ⟨h1, h2, h3⟩ := shown_le 2 _ hf hi
    have hw2 : wt (.tup ps) = 1 + wtL ps := rfl
    have ok := fine_ok hf (by decide)
    have ok' : ((py (.tup ps)).canLay0 && decide _) = true := ok
    rw [Bool.and_eq_true] at ok'
    exact ⟨ok'.1, h2, by omega, by omega⟩
theorem cutL_hi {α : Type} (xs : List α) (k : Nat) : cutL xs none (some (k : Int)) = xs.take k := by
  unfold cutL
  rw [HT.sIx_none, HT.sIx_nat, List.drop_zero, Nat.sub_zero]
  rcases Nat.le_total k xs.length with h | h
  · rw [Nat.min_eq_left h]
  · rw [Nat.min_eq_right h, List.take_length, List.take_of_length_le h]
theorem cutL_lo {α : Type} (xs : List α) (k : Nat) : cutL xs (some (k : Int)) none = xs.drop k := by
  unfold cutL
  rw [HT.sIx_none, HT.sIx_nat]
  rcases Nat.le_total k xs.length with h | h
  · rw [Nat.min_eq_left h, List.take_of_length_le (by rw [List.length_drop]; omega)]
  · rw [Nat.min_eq_right h, Nat.sub_self, List.take_zero, List.drop_of_length_le h]
section
variable {G : Gp} {Q : K3}
theorem q_slL_hi {xs : List D} {k : Nat} : rSl3 (.lst xs) none (some (k : Int)) G Q = Q (.lst (xs.take k)) G := by
  show Q (.lst (cutL xs none (some (k : Int)))) G = _
  rw [cutL_hi]
theorem q_slL_lo {xs : List D} {k : Nat} : rSl3 (.lst xs) (some (k : Int)) none G Q = Q (.lst (xs.drop k)) G := by
  show Q (.lst (cutL xs (some (k : Int)) none)) G = _
  rw [cutL_lo]
end
/-! ### a list from a walk over pairs that takes from the purse -/
theorem lLc_puT {te : TE3} {vs : List Nat} {τ : T3} {G : Gp} {Q : K3} {li : TI3} {g : TG3} {p : Addr} (Y : D → Prop) (ds : List D) (c st M : Nat)
    (hli : ∀ R : List D → Gp → Prop, R ds G → li τ G R) (hM : M ≤ sizeLine) (hl : ds.length ≤ M) (hP : Pu p c G)
    (he : ∀ (j : Nat) d (G' : Gp), ds[j]? = some d → Pu p (c + j * st) G' → ∀ Q' : K3, (∀ y G'', Y y → Pu p (c + j * st + st) G'' → Sb p G' G'' → Q' y G'') → g d (wipe3 τ vs) G' fun τ2 G2 => te τ2 G2 Q')
    (q : ∀ ys G', ys.length = ds.length → (∀ y ∈ ys, Y y) → Pu p (c + ds.length * st) G' → Sb p G G' → Q (.lst ys) G') : lLc li g tYes3 te vs τ G Q := by
  refine hli _ fun L hL => ?_
  have hLp := pu_ne hP hL
  refine ⟨fun j acc G' => acc.length = j ∧ Lp p L G Y (c + j * st) acc G', ⟨rfl, by rw [Nat.zero_mul]; exact pu_gup hP hLp, gup_same, fun q h1 h2 => gup_ne h2, fun y h => nomatch h⟩, ?_, ?_⟩
  · rintro j d acc G' hd ⟨hj, I⟩
    simp only [tYes3, if_true]
    refine he j d G' hd I.pu _ fun y G'' hy hP' hS' => ⟨?_, ?_, ?_⟩
    · rw [hS' L hLp]; exact I.li
    · have := (List.getElem?_eq_some_iff.mp hd).1
      omega
    · refine ⟨by rw [List.length_append, hj]; rfl, ?_, gup_same, fun q h1 h2 => ?_, fun z hz => ?_⟩
      · rw [Nat.add_one_mul, ← Nat.add_assoc]; exact pu_gup hP' hLp
      · rw [gup_ne h2, hS' q h1, I.sb q h1 h2]
      · rcases List.mem_append.mp hz with hz | hz
        · exact I.ok z hz
        · have : z = y := by simpa using hz
          rw [this]; exact hy
  · rintro acc G' ⟨hj, I⟩
    refine ⟨I.li, q acc _ hj I.ok (pu_gdel I.pu hLp) fun x hx => ?_⟩
    by_cases e : x = L
    · subst e
      rw [gdel_same, hL]
    · rw [gdel_ne e, I.sb x hx e]
theorem wit_nat {m : Nat} : ∀ {ys : List D}, (∀ y ∈ ys, ∃ n : Nat, y = .int (n : Int) ∧ n ≤ m) → ∃ l : List Nat, ys = l.map (fun n => .int (n : Int)) ∧ ∀ n ∈ l, n ≤ m
  | [], _ => ⟨[], rfl, fun x h => nomatch h⟩
  | y :: ys, h => by
    obtain ⟨n, rfl, hn⟩ := h y List.mem_cons_self
    obtain ⟨l, rfl, hl⟩ := wit_nat (ys := ys) fun z hz => h z (List.mem_cons_of_mem _ hz)
    exact ⟨n :: l, rfl, fun z hz => by
      rcases List.mem_cons.mp hz with rfl | hz
      · exact hn
      · exact hl z hz⟩
def tp4 (sp__law_take : Sp3) : TS3 := sSeq (sIf (lTest (lOp rEq3 (lCall sp__law_take [] (lCons (lVar 0) (lCons (lC (.int 8)) (lNil)))) (lC (.int 5)))) (sAsg (lOp rAdd3 (lVar 3) (lOp rMulL3 (lLst (lCons (lC (.int 0)) (lNil))) (lOp rSub3 (lOp rAdd3 (lC (.int 1)) (lCB rLen3 (lCons (lVar 1) (lNil)))) (lCB rLen3 (lCons (lVar 3) (lNil)))))) (gName3 3)) (sNext)) (sRet (lVar 3))
def tp3 (sp__law_take : Sp3) : TS3 := sSeq (sIf (lTest (lOp rEq3 (lCall sp__law_take [] (lCons (lVar 0) (lCons (lC (.int 4)) (lNil)))) (lC (.int 3)))) (sSeq (sAsg (lCall sp__law_take [] (lCons (lVar 0) (lCons (lOp rAdd3 (lCB rLen3 (lCons (lVar 3) (lNil))) (lC (.int 1))) (lNil)))) (gName3 6)) (sSeq (sAsg (lOp rIx3 (lOp rAdd3 (lVar 2) (lLst (lCons (lC (.int 0)) (lNil)))) (lVar 6)) (gName3 4)) (sSeq (sAsg (lOp rIx3 (lLst (lCons (lOp rAdd3 (lVar 4) (lC (.int 1))) (lCons (lNeg (lC (.int 1))) (lCons (lC (.bl true)) (lCons (lC .non) (lCons (lC (.str "1")) (lCons (lTup (lCons (lC (.int 1)) (lNil))) (lCons (lOp rAdd3 (lVar 4) (lOp rPow3 (lC (.int 10)) (lC (.int 20)))) (lCons (lC (.bl false)) (lNil)))))))))) (lCall sp__law_take [] (lCons (lVar 0) (lCons (lC (.int 8)) (lNil))))) (gName3 7)) (sAsg (lOp rAdd3 (lOp rAdd3 (lSl rSl3 (lVar 3) (lNoPart) (lPart (lVar 6))) (lLst (lCons (lVar 7) (lNil)))) (lSl rSl3 (lVar 3) (lPart (lOp rAdd3 (lVar 6) (lC (.int 1)))) (lNoPart))) (gName3 3))))) (sNext)) (tp4 sp__law_take)
def tp2 (sp__law_take : Sp3) : TS3 := sSeq (sIf (lTest (lOp rEq3 (lCall sp__law_take [] (lCons (lVar 0) (lCons (lC (.int 2)) (lNil)))) (lC (.int 1)))) (sAsg (lLc (iZip3 (lVar 3) (lVar 2)) (gTup3 2 (gCons3 (gName3 5) (gCons3 (gName3 4) (gNil3)))) (tYes3) (lOp rIx3 (lLst (lCons (lVar 5) (lCons (lVar 4) (lCons (lC (.int 0)) (lNil))))) (lCall sp__law_take [] (lCons (lVar 0) (lCons (lC (.int 3)) (lNil))))) [5, 4]) (gName3 3)) (sNext)) (tp3 sp__law_take)
theorem tp_eq (sp__law_full sp__law_take : Sp3) : t__law_picks sp__law_full sp__law_take = sSeq (sAsg (lCall sp__law_full [] (lCons (lVar 1) (lNil))) (gName3 2)) (sSeq (sAsg (lLc (iLst3 (lSl rSl3 (lVar 2) (lNoPart) (lPart (lCall sp__law_take [] (lCons (lVar 0) (lCons (lOp rAdd3 (lCB rLen3 (lCons (lVar 2) (lNil))) (lC (.int 1))) (lNil))))))) (gName3 4) (tYes3) (lCall sp__law_take [] (lCons (lVar 0) (lCons (lOp rAdd3 (lVar 4) (lC (.int 1))) (lNil)))) [4]) (gName3 3)) (tp2 sp__law_take)) := rfl
def sp_lpicks : Sp3 := fun ds G Q => ∃ pr c dl, ds = [.ref pr, .lst (dl.map deD)] ∧ DlOk dl ∧ dl.length ≤ 8 ∧ c ≤ 1000 ∧ Pu pr c G ∧
  ∀ ps G', ps.length ≤ 9 → (∀ d ∈ ps, PkR d) → Pu pr (c + 30) G' → Sb pr G G' → Q (.lst ps) G'
theorem most_get {dl : List Dd} (h : DlOk dl) {i : Nat} {d : D} (hd : ((dl.map fun d => D.int (most d)))[i]? = some d) : ∃ n : Nat, d = .int (n : Int) ∧ 1 ≤ n ∧ n ≤ 13 := by
  rw [List.getElem?_map] at hd
  cases e : dl[i]? with
  | none => rw [e] at hd; cases hd
  | some x =>
    rw [e] at hd
    cases hd
    have h1 := most_le (h x (List.mem_of_getElem? e))
    have h2 := most_pos x
    exact ⟨(most x).toNat, by show D.int (most x) = _; congr 1; omega, by omega, by omega⟩
section
variable {G G0 : Gp} {Q : K3} {pr : Addr} {c : Nat} {dl : List Dd}
theorem p_tp4 {ps : List D} {x2 x4 x5 x6 x7 : Option D} (hl : dl.length ≤ 8) (h1 : ps.length ≤ dl.length + 1) (h2 : ∀ d ∈ ps, PkR d) (hc : c ≤ 1000) (hP : Pu pr (c + 25) G) (hS : Sb pr G0 G)
    (k : ∀ ps G', ps.length ≤ 9 → (∀ d ∈ ps, PkR d) → Pu pr (c + 30) G' → Sb pr G0 G' → Q (.lst ps) G') : tp4 sp_take (D0 Q) [some (.ref pr), some (.lst (dl.map deD)), x2, some (.lst ps), x4, x5, x6, x7] G := by
  have hz : sizeLine = 2 ^ 24 := rfl
  simp only [tp4, u_lListRg, u_sRet, u_sRetN, ss_if, ss_asg, ss_drop, ss_ret, ss_retN, ss_next, ss_never, ss_break, ss_cont, ss_seq, ss_par, ss_aug, ss_gh, ss_fld, u_sIf, u_sNever, u_sNext, u_sDrop, u_sAsg, u_sPar, u_sAug, u_sGh, u_sBreak, u_sCont, u_lOp, u_lC, u_lVar, u_lTest, u_lNil, u_lCons, u_lAnd, u_lOr, u_lNot, u_lAndV, u_lOrV, u_lNotV, u_lIf, u_lChain, u_lTup, u_lLst, u_lLstG, u_lCB, u_lCall, u_lIsi, u_lIsi2, u_lSl, u_lNoPart, u_lPart, u_lNeg, u_lJoin, u_lSplit, u_lWords, u_gName3, u_gNil3, u_gCons3, u_gTup3, u_gStar3, u_gSub3, u_iLst3, u_iTup3, u_iStr3, u_iRg1, u_iRg2, u_iEnum3, u_iZip3, u_iZipT3, u_iZipS3, u_tYes3, u_lFld, u_lMeth, u_lMake, u_lFrz, u_lLm, u_lDNew, u_lDGet2, u_lDSetd, u_lCallA, u_sFld3, u_lDIn, u_lDIx, u_lDPop1, u_gDSub, u_gFld3, u_iLive, u_iZipL, u_iEnumQ3, u_lMethE, u_sRaise1, u_sRaise0, ss_raise1, ss_raise0, start3, List.map, List.append, List.length, List.replicate, List.set, List.cons_append, List.nil_append, List.getElem?_cons_zero, List.getElem?_cons_succ]
  refine ⟨pr, 8, c + 25, rfl, by decide, by decide, by omega, hP, fun r G4 hr hP4 hS4 => ?_⟩
  have hS5 := hS.trans hS4
  try dsimp only
  rw [q_eq_int]
  try dsimp only
  by_cases h5 : (r : Int) = 5
  · rw [decide_eq_true h5, if_pos rfl]
    refine ⟨by decide, ?_⟩
    rw [q_len_lst, List.length_map]
    try dsimp only
    rw [q_add]
    try dsimp only
    rw [q_len_lst]
    try dsimp only
    rw [q_sub]
    try dsimp only
    simp only [rMulL3, lstOf]
    have e : ((1 : Int) + (dl.length : Nat) - (ps.length : Nat)).toNat = 1 + dl.length - ps.length := by omega
    rw [e]
    refine ⟨by omega, by omega, by simp only [List.length_singleton]; omega, ?_⟩
    have hfl : (List.replicate (1 + dl.length - ps.length) [D.int 0]).flatten = List.replicate (1 + dl.length - ps.length) (D.int 0) := by simp
    rw [hfl, q_addL, List.length_replicate]
    refine ⟨by omega, k _ _ ?_ ?_ (hP4.up (by omega)) hS5⟩
    · rw [List.length_append, List.length_replicate]; omega
    · intro d hd
      rcases List.mem_append.mp hd with hd | hd
      · exact h2 d hd
      · rw [List.eq_of_mem_replicate hd]; exact pkr_int (by decide)
  · rw [decide_eq_false h5, if_neg Bool.false_ne_true]
    exact k _ _ (by omega) h2 (hP4.up (by omega)) hS5
theorem p_tp3 {ps : List D} {x4 x5 x6 x7 : Option D} (ho : DlOk dl) (hl : dl.length ≤ 8) (h1 : ps.length ≤ dl.length) (h2 : ∀ d ∈ ps, PkR d) (hc : c ≤ 1000) (hP : Pu pr (c + 20) G) (hS : Sb pr G0 G)
    (k : ∀ ps G', ps.length ≤ 9 → (∀ d ∈ ps, PkR d) → Pu pr (c + 30) G' → Sb pr G0 G' → Q (.lst ps) G') : tp3 sp_take (D0 Q) [some (.ref pr), some (.lst (dl.map deD)), some (fullD dl), some (.lst ps), x4, x5, x6, x7] G := by
  have hz : sizeLine = 2 ^ 24 := rfl
  have hfl : (dl.map fun d => D.int (most d)).length = dl.length := List.length_map ..
  simp only [tp3, u_lListRg, u_sRet, u_sRetN, ss_if, ss_asg, ss_drop, ss_ret, ss_retN, ss_next, ss_never, ss_break, ss_cont, ss_seq, ss_par, ss_aug, ss_gh, ss_fld, u_sIf, u_sNever, u_sNext, u_sDrop, u_sAsg, u_sPar, u_sAug, u_sGh, u_sBreak, u_sCont, u_lOp, u_lC, u_lVar, u_lTest, u_lNil, u_lCons, u_lAnd, u_lOr, u_lNot, u_lAndV, u_lOrV, u_lNotV, u_lIf, u_lChain, u_lTup, u_lLst, u_lLstG, u_lCB, u_lCall, u_lIsi, u_lIsi2, u_lSl, u_lNoPart, u_lPart, u_lNeg, u_lJoin, u_lSplit, u_lWords, u_gName3, u_gNil3, u_gCons3, u_gTup3, u_gStar3, u_gSub3, u_iLst3, u_iTup3, u_iStr3, u_iRg1, u_iRg2, u_iEnum3, u_iZip3, u_iZipT3, u_iZipS3, u_tYes3, u_lFld, u_lMeth, u_lMake, u_lFrz, u_lLm, u_lDNew, u_lDGet2, u_lDSetd, u_lCallA, u_sFld3, u_lDIn, u_lDIx, u_lDPop1, u_gDSub, u_gFld3, u_iLive, u_iZipL, u_iEnumQ3, u_lMethE, u_sRaise1, u_sRaise0, ss_raise1, ss_raise0, start3, List.map, List.append, List.length, List.replicate, List.set, List.cons_append, List.nil_append, List.getElem?_cons_zero, List.getElem?_cons_succ]
  refine ⟨pr, 4, c + 20, rfl, by decide, by decide, by omega, hP, fun r G1 hr hP1 hS1 => ?_⟩
  have hS2 := hS.trans hS1
  try dsimp only
  rw [q_eq_int]
  try dsimp only
  by_cases h5 : (r : Int) = 3
  · rw [decide_eq_true h5, if_pos rfl]
    rw [q_len_lst]
    try dsimp only
    rw [q_add]
    refine ⟨pr, ps.length + 1, c + 21, rfl, by omega, by omega, by omega, hP1, fun a G2 ha hP2 hS3 => ?_⟩
    try dsimp only
    refine ⟨by decide, ?_⟩
    unfold fullD
    rw [q_addL]
    refine ⟨by rw [hfl]; simp only [List.length_singleton]; omega, ?_⟩
    obtain ⟨m, hm, hm0, hm1⟩ : ∃ m : Nat, ((dl.map fun d => D.int (most d)) ++ [.int 0])[a]? = some (.int (m : Int)) ∧ 0 ≤ m ∧ m ≤ 13 := by
      by_cases hlt : a < dl.length
      · rw [List.getElem?_append_left (by rw [hfl]; exact hlt)]
        obtain ⟨d, hd⟩ : ∃ d, (dl.map fun d => D.int (most d))[a]? = some d := ⟨_, List.getElem?_eq_getElem (by rw [hfl]; exact hlt)⟩
        obtain ⟨n, rfl, h3, h4⟩ := most_get ho hd
        exact ⟨n, hd, Nat.zero_le _, h4⟩
      · have ea : a = dl.length := by omega
        rw [List.getElem?_append_right (by rw [hfl]; omega), hfl, ea, Nat.sub_self]
        exact ⟨0, rfl, Nat.le_refl _, by decide⟩
    try dsimp only
    rw [q_ix_lst hm]
    try dsimp only
    rw [q_add]
    refine ⟨by decide, ?_⟩
    rw [q_pow]
    refine ⟨⟨by decide, by decide, by decide⟩, ?_⟩
    try dsimp only
    rw [q_add]
    refine ⟨by decide, pr, 8, c + 22, rfl, by decide, by decide, by omega, hP2, fun b G3 hb hP3 hS4 => ?_⟩
    obtain ⟨o, hob, hok⟩ := pkr_odd (i := b) (m := (m : Int)) (by omega) (by omega) hb
    try dsimp only
    have hob2 : ([.int ((m : Int) + 1), .int (-1), .bl true, .non, .str "1", .tup [.int 1], .int ((m : Int) + 10 ^ Int.toNat 20), .bl false] : List D)[b]? = some o := hob
    rw [q_ix_lst hob2]
    try dsimp only
    rw [q_slL_hi]
    try dsimp only
    refine ⟨by decide, ?_⟩
    rw [q_addL]
    refine ⟨by rw [List.length_take]; simp only [List.length_singleton]; omega, ?_⟩
    try dsimp only
    rw [q_add]
    try dsimp only
    have e1 : (a : Int) + 1 = ((a + 1 : Nat) : Int) := rfl
    rw [e1, q_slL_lo]
    try dsimp only
    rw [q_addL]
    refine ⟨by rw [List.length_append, List.length_take, List.length_drop]; simp only [List.length_singleton]; omega, ?_⟩
    refine p_tp4 hl ?_ ?_ hc (hP3.up (by omega)) ((hS2.trans hS3).trans hS4) k
    · rw [List.length_append, List.length_append, List.length_take, List.length_drop]; simp only [List.length_singleton]; omega
    · intro d hd
      rcases List.mem_append.mp hd with hd | hd
      · rcases List.mem_append.mp hd with hd | hd
        · exact h2 d (List.mem_of_mem_take hd)
        · rw [List.mem_singleton.mp hd]; exact hok
      · exact h2 d (List.mem_of_mem_drop hd)
  · rw [decide_eq_false h5, if_neg Bool.false_ne_true]
    exact p_tp4 hl (by omega) h2 hc (hP1.up (by omega)) hS2 k
theorem p_tp2 {ps : List D} {x4 x5 x6 x7 : Option D} (ho : DlOk dl) (hl : dl.length ≤ 8) (h1 : ps.length ≤ dl.length) (h2 : ∀ d ∈ ps, ∃ n : Nat, d = .int (n : Int) ∧ n ≤ 13) (hc : c ≤ 1000) (hP : Pu pr (c + 10) G) (hS : Sb pr G0 G)
    (k : ∀ ps G', ps.length ≤ 9 → (∀ d ∈ ps, PkR d) → Pu pr (c + 30) G' → Sb pr G0 G' → Q (.lst ps) G') : tp2 sp_take (D0 Q) [some (.ref pr), some (.lst (dl.map deD)), some (fullD dl), some (.lst ps), x4, x5, x6, x7] G := by
  have hz : sizeLine = 2 ^ 24 := rfl
  have hfl : (dl.map fun d => D.int (most d)).length = dl.length := List.length_map ..
  have hpk : ∀ d, (∃ n : Nat, d = .int (n : Int) ∧ n ≤ 13) → PkR d := fun d h => by
    obtain ⟨n, rfl, hn⟩ := h
    exact pkr_int (Nat.lt_of_le_of_lt (show (n : Int).natAbs ≤ 13 by omega) (by decide))
  simp only [tp2, u_lListRg, u_sRet, u_sRetN, ss_if, ss_asg, ss_drop, ss_ret, ss_retN, ss_next, ss_never, ss_break, ss_cont, ss_seq, ss_par, ss_aug, ss_gh, ss_fld, u_sIf, u_sNever, u_sNext, u_sDrop, u_sAsg, u_sPar, u_sAug, u_sGh, u_sBreak, u_sCont, u_lOp, u_lC, u_lVar, u_lTest, u_lNil, u_lCons, u_lAnd, u_lOr, u_lNot, u_lAndV, u_lOrV, u_lNotV, u_lIf, u_lChain, u_lTup, u_lLst, u_lLstG, u_lCB, u_lCall, u_lIsi, u_lIsi2, u_lSl, u_lNoPart, u_lPart, u_lNeg, u_lJoin, u_lSplit, u_lWords, u_gName3, u_gNil3, u_gCons3, u_gTup3, u_gStar3, u_gSub3, u_iLst3, u_iTup3, u_iStr3, u_iRg1, u_iRg2, u_iEnum3, u_iZip3, u_iZipT3, u_iZipS3, u_tYes3, u_lFld, u_lMeth, u_lMake, u_lFrz, u_lLm, u_lDNew, u_lDGet2, u_lDSetd, u_lCallA, u_sFld3, u_lDIn, u_lDIx, u_lDPop1, u_gDSub, u_gFld3, u_iLive, u_iZipL, u_iEnumQ3, u_lMethE, u_sRaise1, u_sRaise0, ss_raise1, ss_raise0, start3, List.map, List.append, List.length, List.replicate, List.set, List.cons_append, List.nil_append, List.getElem?_cons_zero, List.getElem?_cons_succ]
  refine ⟨pr, 2, c + 10, rfl, by decide, by decide, by omega, hP, fun r G1 hr hP1 hS1 => ?_⟩
  have hS2 := hS.trans hS1
  try dsimp only
  rw [q_eq_int]
  try dsimp only
  by_cases h5 : (r : Int) = 1
  · rw [decide_eq_true h5, if_pos rfl]
    refine lLc_puT (p := pr) (fun y => ∃ n : Nat, y = .int (n : Int) ∧ n ≤ 13) (zpL ps (dl.map fun d => D.int (most d))) (c + 11) 1 8 (fun R hR => ?_) (by omega) (by rw [zpL_len]; omega) hP1 ?_ ?_
    · simp only [u_lListRg, u_sRet, u_sRetN, ss_if, ss_asg, ss_drop, ss_ret, ss_retN, ss_next, ss_never, ss_break, ss_cont, ss_seq, ss_par, ss_aug, ss_gh, ss_fld, u_sIf, u_sNever, u_sNext, u_sDrop, u_sAsg, u_sPar, u_sAug, u_sGh, u_sBreak, u_sCont, u_lOp, u_lC, u_lVar, u_lTest, u_lNil, u_lCons, u_lAnd, u_lOr, u_lNot, u_lAndV, u_lOrV, u_lNotV, u_lIf, u_lChain, u_lTup, u_lLst, u_lLstG, u_lCB, u_lCall, u_lIsi, u_lIsi2, u_lSl, u_lNoPart, u_lPart, u_lNeg, u_lJoin, u_lSplit, u_lWords, u_gName3, u_gNil3, u_gCons3, u_gTup3, u_gStar3, u_gSub3, u_iLst3, u_iTup3, u_iStr3, u_iRg1, u_iRg2, u_iEnum3, u_iZip3, u_iZipT3, u_iZipS3, u_tYes3, u_lFld, u_lMeth, u_lMake, u_lFrz, u_lLm, u_lDNew, u_lDGet2, u_lDSetd, u_lCallA, u_sFld3, u_lDIn, u_lDIx, u_lDPop1, u_gDSub, u_gFld3, u_iLive, u_iZipL, u_iEnumQ3, u_lMethE, u_sRaise1, u_sRaise0, ss_raise1, ss_raise0, start3, List.map, List.append, List.length, List.replicate, List.set, List.cons_append, List.nil_append, List.getElem?_cons_zero, List.getElem?_cons_succ]
      exact hR
    · intro j d G2 hdj hP2 Q' hQ'
      have hj := (List.getElem?_eq_some_iff.mp hdj).1
      rw [zpL_len, hfl] at hj
      obtain ⟨x, hx⟩ : ∃ x, ps[j]? = some x := ⟨_, List.getElem?_eq_getElem (by omega)⟩
      obtain ⟨y, hy⟩ : ∃ y, (dl.map fun d => D.int (most d))[j]? = some y := ⟨_, List.getElem?_eq_getElem (by rw [hfl]; omega)⟩
      rw [zpL_get hx hy] at hdj
      cases hdj
      obtain ⟨n, rfl, hn⟩ := h2 _ (List.mem_of_getElem? hx)
      obtain ⟨m, rfl, hm0, hm⟩ := most_get ho hy
      simp only [u_lListRg, u_sRet, u_sRetN, ss_if, ss_asg, ss_drop, ss_ret, ss_retN, ss_next, ss_never, ss_break, ss_cont, ss_seq, ss_par, ss_aug, ss_gh, ss_fld, u_sIf, u_sNever, u_sNext, u_sDrop, u_sAsg, u_sPar, u_sAug, u_sGh, u_sBreak, u_sCont, u_lOp, u_lC, u_lVar, u_lTest, u_lNil, u_lCons, u_lAnd, u_lOr, u_lNot, u_lAndV, u_lOrV, u_lNotV, u_lIf, u_lChain, u_lTup, u_lLst, u_lLstG, u_lCB, u_lCall, u_lIsi, u_lIsi2, u_lSl, u_lNoPart, u_lPart, u_lNeg, u_lJoin, u_lSplit, u_lWords, u_gName3, u_gNil3, u_gCons3, u_gTup3, u_gStar3, u_gSub3, u_iLst3, u_iTup3, u_iStr3, u_iRg1, u_iRg2, u_iEnum3, u_iZip3, u_iZipT3, u_iZipS3, u_tYes3, u_lFld, u_lMeth, u_lMake, u_lFrz, u_lLm, u_lDNew, u_lDGet2, u_lDSetd, u_lCallA, u_sFld3, u_lDIn, u_lDIx, u_lDPop1, u_gDSub, u_gFld3, u_iLive, u_iZipL, u_iEnumQ3, u_lMethE, u_sRaise1, u_sRaise0, ss_raise1, ss_raise0, start3, List.map, List.append, List.length, List.replicate, List.set, List.cons_append, List.nil_append, List.getElem?_cons_zero, List.getElem?_cons_succ, wipe3, itemsOf]
      refine ⟨trivial, by decide, pr, 3, c + 11 + j * 1, rfl, by decide, by decide, by omega, hP2, fun b G3 hb hP3 hS3 => ?_⟩
      try dsimp only
      have : b = 0 ∨ b = 1 ∨ b = 2 := by omega
      rcases this with rfl | rfl | rfl
      · rw [q_ix_lst (d := .int (n : Int)) rfl]; exact hQ' _ G3 ⟨n, rfl, hn⟩ hP3 hS3
      · rw [q_ix_lst (d := .int (m : Int)) rfl]; exact hQ' _ G3 ⟨m, rfl, hm⟩ hP3 hS3
      · rw [q_ix_lst (d := .int 0) rfl]; exact hQ' _ G3 ⟨0, rfl, by decide⟩ hP3 hS3
    · intro ys G2 hyl hY hP2 hS3
      rw [zpL_len, hfl] at hyl
      rw [zpL_len, hfl] at hP2
      exact p_tp3 ho hl (by omega) (fun d hd => hpk d (hY d hd)) hc (hP2.up (by omega)) (hS2.trans hS3) k
  · rw [decide_eq_false h5, if_neg Bool.false_ne_true]
    exact p_tp3 ho hl h1 (fun d hd => hpk d (h2 d hd)) hc (hP1.up (by omega)) hS2 k
end
theorem p_lpicks (ds : List D) (G : Gp) (Q : K3) (h : sp_lpicks ds G Q) : t__law_picks sp_full sp_take (D0 Q) (start3 N__law_picks ds) G := by
  obtain ⟨pr, c, dl, rfl, ho, hl, hc, hP, k⟩ := h
  have hz : sizeLine = 2 ^ 24 := rfl
  rw [tp_eq]
  simp only [N__law_picks, u_lListRg, u_sRet, u_sRetN, ss_if, ss_asg, ss_drop, ss_ret, ss_retN, ss_next, ss_never, ss_break, ss_cont, ss_seq, ss_par, ss_aug, ss_gh, ss_fld, u_sIf, u_sNever, u_sNext, u_sDrop, u_sAsg, u_sPar, u_sAug, u_sGh, u_sBreak, u_sCont, u_lOp, u_lC, u_lVar, u_lTest, u_lNil, u_lCons, u_lAnd, u_lOr, u_lNot, u_lAndV, u_lOrV, u_lNotV, u_lIf, u_lChain, u_lTup, u_lLst, u_lLstG, u_lCB, u_lCall, u_lIsi, u_lIsi2, u_lSl, u_lNoPart, u_lPart, u_lNeg, u_lJoin, u_lSplit, u_lWords, u_gName3, u_gNil3, u_gCons3, u_gTup3, u_gStar3, u_gSub3, u_iLst3, u_iTup3, u_iStr3, u_iRg1, u_iRg2, u_iEnum3, u_iZip3, u_iZipT3, u_iZipS3, u_tYes3, u_lFld, u_lMeth, u_lMake, u_lFrz, u_lLm, u_lDNew, u_lDGet2, u_lDSetd, u_lCallA, u_sFld3, u_lDIn, u_lDIx, u_lDPop1, u_gDSub, u_gFld3, u_iLive, u_iZipL, u_iEnumQ3, u_lMethE, u_sRaise1, u_sRaise0, ss_raise1, ss_raise0, start3, List.map, List.append, List.length, List.replicate, List.set, List.cons_append, List.nil_append, List.getElem?_cons_zero, List.getElem?_cons_succ]
  refine ⟨.lst (dl.map deD), dl, rfl, rfl, ho, by omega, ?_⟩
  try dsimp only
  have hfl : (dl.map fun d => D.int (most d)).length = dl.length := List.length_map ..
  refine lLc_pu (p := pr) (fun y => ∃ n : Nat, y = .int (n : Int) ∧ n ≤ 13) (fun ds => ∃ j, ds = (dl.map fun d => D.int (most d)).take j) (c + 1) 1 8 (fun R hR => ?_) (by omega) ?_ ?_
  · simp only [fullD, u_lListRg, u_sRet, u_sRetN, ss_if, ss_asg, ss_drop, ss_ret, ss_retN, ss_next, ss_never, ss_break, ss_cont, ss_seq, ss_par, ss_aug, ss_gh, ss_fld, u_sIf, u_sNever, u_sNext, u_sDrop, u_sAsg, u_sPar, u_sAug, u_sGh, u_sBreak, u_sCont, u_lOp, u_lC, u_lVar, u_lTest, u_lNil, u_lCons, u_lAnd, u_lOr, u_lNot, u_lAndV, u_lOrV, u_lNotV, u_lIf, u_lChain, u_lTup, u_lLst, u_lLstG, u_lCB, u_lCall, u_lIsi, u_lIsi2, u_lSl, u_lNoPart, u_lPart, u_lNeg, u_lJoin, u_lSplit, u_lWords, u_gName3, u_gNil3, u_gCons3, u_gTup3, u_gStar3, u_gSub3, u_iLst3, u_iTup3, u_iStr3, u_iRg1, u_iRg2, u_iEnum3, u_iZip3, u_iZipT3, u_iZipS3, u_tYes3, u_lFld, u_lMeth, u_lMake, u_lFrz, u_lLm, u_lDNew, u_lDGet2, u_lDSetd, u_lCallA, u_sFld3, u_lDIn, u_lDIx, u_lDPop1, u_gDSub, u_gFld3, u_iLive, u_iZipL, u_iEnumQ3, u_lMethE, u_sRaise1, u_sRaise0, ss_raise1, ss_raise0, start3, List.map, List.append, List.length, List.replicate, List.set, List.cons_append, List.nil_append, List.getElem?_cons_zero, List.getElem?_cons_succ]
    rw [q_len_lst, hfl]
    try dsimp only
    rw [q_add]
    refine ⟨pr, dl.length + 1, c, rfl, by omega, by omega, by omega, hP, fun j G1 hj hP1 hS1 => ?_⟩
    try dsimp only
    rw [q_slL_hi]
    exact hR _ G1 ⟨j, rfl⟩ (by rw [List.length_take, hfl]; omega) hP1 hS1
  · rintro ds j d G1 ⟨m, rfl⟩ hdj hP1 _ Q' hQ'
    have hj := (List.getElem?_eq_some_iff.mp hdj).1
    rw [List.length_take, hfl] at hj
    have hdj2 : (dl.map fun d => D.int (most d))[j]? = some d := by
      rw [List.getElem?_take] at hdj
      split at hdj
      · exact hdj
      · cases hdj
    obtain ⟨n, rfl, hn0, hn1⟩ := most_get ho hdj2
    simp only [u_lListRg, u_sRet, u_sRetN, ss_if, ss_asg, ss_drop, ss_ret, ss_retN, ss_next, ss_never, ss_break, ss_cont, ss_seq, ss_par, ss_aug, ss_gh, ss_fld, u_sIf, u_sNever, u_sNext, u_sDrop, u_sAsg, u_sPar, u_sAug, u_sGh, u_sBreak, u_sCont, u_lOp, u_lC, u_lVar, u_lTest, u_lNil, u_lCons, u_lAnd, u_lOr, u_lNot, u_lAndV, u_lOrV, u_lNotV, u_lIf, u_lChain, u_lTup, u_lLst, u_lLstG, u_lCB, u_lCall, u_lIsi, u_lIsi2, u_lSl, u_lNoPart, u_lPart, u_lNeg, u_lJoin, u_lSplit, u_lWords, u_gName3, u_gNil3, u_gCons3, u_gTup3, u_gStar3, u_gSub3, u_iLst3, u_iTup3, u_iStr3, u_iRg1, u_iRg2, u_iEnum3, u_iZip3, u_iZipT3, u_iZipS3, u_tYes3, u_lFld, u_lMeth, u_lMake, u_lFrz, u_lLm, u_lDNew, u_lDGet2, u_lDSetd, u_lCallA, u_sFld3, u_lDIn, u_lDIx, u_lDPop1, u_gDSub, u_gFld3, u_iLive, u_iZipL, u_iEnumQ3, u_lMethE, u_sRaise1, u_sRaise0, ss_raise1, ss_raise0, start3, List.map, List.append, List.length, List.replicate, List.set, List.cons_append, List.nil_append, List.getElem?_cons_zero, List.getElem?_cons_succ, wipe3]
    rw [q_add]
    refine ⟨pr, n + 1, c + 1 + j * 1, rfl, by omega, by omega, by omega, hP1, fun r G2 hr hP2 hS2 => hQ' _ G2 ⟨r, rfl, by omega⟩ hP2 hS2⟩
  · rintro ds ys G1 ⟨m, rfl⟩ hyl hM hY hP1 hS1
    rw [List.length_take, hfl] at hyl hP1
    exact p_tp2 ho hl (by omega) hY hc (hP1.up (by omega)) hS1 k
end K69
end

section
set_option Elab.async false
set_option linter.all false
set_option maxRecDepth 100000
set_option maxHeartbeats 1000000
namespace K69
open PySem PySem.Spec PyProof.Rows L2 L3 PP PT SX LamX
def isaN : Str → Bool := fun x => decide (x = "NoDeed") || (decide (x = "Wrong") || decide (x = "ValueError"))
def spp_kind (cT : Addr) : SpP := fun a C dx ds G Q => C = cT ∧ (∀ dd, dx = some dd → ∃ fs, G dd = some (.xd fs)) ∧ ds = [.ref a] ∧ Q (.str "!NoDeed") G
theorem ph_law_kind {cT : Addr} (a C : Addr) (dx : Option Addr) (ds : List D) (G : Gp) (Q : K3) (h : spp_kind cT a C dx ds G Q) : th__law_kind a dx isaN (D0 Q) (start3 N__law_kind ds) G := by
  obtain ⟨_, hx, rfl, q⟩ := h
  have i1 : isaN "Broken" = false := by decide +kernel
  have i2 : isaN "Full" = false := by decide +kernel
  have i3 : isaN "Gone" = false := by decide +kernel
  have i4 : isaN "NoDeed" = true := by decide +kernel
  have i5 : isaN "NoFile" = false := by decide +kernel
  have i6 : isaN "NoName" = false := by decide +kernel
  have i7 : isaN "NoNumber" = false := by decide +kernel
  have i8 : isaN "NoPages" = false := by decide +kernel
  have i9 : isaN "NoQuery" = false := by decide +kernel
  have i10 : isaN "NoShelf" = false := by decide +kernel
  have i11 : isaN "NoSize" = false := by decide +kernel
  have i12 : isaN "NoSlot" = false := by decide +kernel
  have i13 : isaN "NoText" = false := by decide +kernel
  have i14 : isaN "Taken" = false := by decide +kernel
  have i15 : isaN "Torn" = false := by decide +kernel
  have i16 : isaN "Wrong" = true := by decide +kernel
  have i17 : isaN "RuntimeError" = false := by decide +kernel
  have i18 : isaN "OverflowError" = false := by decide +kernel
  have i19 : isaN "KeyError" = false := by decide +kernel
  have i20 : isaN "LookupError" = false := by decide +kernel
  have i21 : isaN "ValueError" = true := by decide +kernel
  simp only [th__law_kind, N__law_kind, lIsP, lCnt, lIdx, lDGet2, i1, i2, i3, i4, i5, i6, i7, i8, i9, i10, i11, i12, i13, i14, i15, i16, i17, i18, i19, i20, i21, u_lListRg, u_sRet, u_sRetN, ss_if, ss_asg, ss_drop, ss_ret, ss_retN, ss_next, ss_never, ss_break, ss_cont, ss_seq, ss_par, ss_aug, ss_gh, ss_fld, u_sIf, u_sNever, u_sNext, u_sDrop, u_sAsg, u_sPar, u_sAug, u_sGh, u_sBreak, u_sCont, u_lOp, u_lC, u_lVar, u_lTest, u_lNil, u_lCons, u_lAnd, u_lOr, u_lNot, u_lAndV, u_lOrV, u_lNotV, u_lIf, u_lChain, u_lTup, u_lLst, u_lLstG, u_lCB, u_lCall, u_lIsi, u_lIsi2, u_lSl, u_lNoPart, u_lPart, u_lNeg, u_lJoin, u_lSplit, u_lWords, u_gName3, u_gNil3, u_gCons3, u_gTup3, u_gStar3, u_gSub3, u_iLst3, u_iTup3, u_iStr3, u_iRg1, u_iRg2, u_iEnum3, u_iZip3, u_iZipT3, u_iZipS3, u_tYes3, u_lFld, u_lMeth, u_lMake, u_lFrz, u_lLm, u_lDNew, u_lDGet2, u_lDSetd, u_lCallA, u_sFld3, u_lDIn, u_lDIx, u_lDPop1, u_gDSub, u_gFld3, u_iLive, u_iZipL, u_iEnumQ3, u_lMethE, u_sRaise1, u_sRaise0, ss_raise1, ss_raise0, start3, List.map, List.append, List.length, List.replicate, List.set, List.cons_append, List.nil_append, List.getElem?_cons_zero, List.getElem?_cons_succ]
  have hz : sizeLine = 16777216 := rfl
  refine ⟨by decide, by decide, ?_⟩
  rw [q_addL]
  refine ⟨by decide, trivial, hx, trivial, hx, trivial, hx, trivial, hx, by decide, trivial, hx, trivial, hx, trivial, hx, trivial, hx, by decide, ?_⟩
  rw [q_addL]
  refine ⟨by decide, trivial, hx, trivial, hx, trivial, hx, trivial, hx, by decide, ?_⟩
  rw [q_addL]
  refine ⟨by decide, trivial, hx, trivial, hx, trivial, hx, by decide, ?_⟩
  rw [q_addL]
  refine ⟨by decide, rfl, ?_⟩
  show rNe3 (.int ((1 : Nat) : Int)) (.int 1) G _
  rw [q_ne_int]
  try dsimp only
  have e1 : decide (((1 : Nat) : Int) = 1) = true := rfl
  rw [e1, Bool.not_true, if_neg Bool.false_ne_true]
  refine ⟨rfl, ?_⟩
  show rIx3 (.lst [.str "Broken", .str "Full", .str "Gone", .str "NoDeed", .str "NoFile", .str "NoName", .str "NoNumber", .str "NoPages", .str "NoQuery", .str "NoShelf", .str "NoSize", .str "NoSlot", .str "NoText", .str "Taken", .str "Torn"]) (.int ((3 : Nat) : Int)) G _
  rw [q_ix_lst (i := 3) rfl]
  refine ⟨trivial, hx, trivial, hx, trivial, hx, trivial, hx, by decide, trivial, hx, trivial, hx, by decide, ?_⟩
  rw [q_addL]
  refine ⟨by decide, ?_⟩
  refine ⟨rfl, ?_⟩
  have inner : ∀ (R : K3) (τ : T3), τ.length = 7 → τ[5]? = some (some (.str "WV")) → R (.lst [.bl true, .bl false, .bl false, .bl false, .bl false, .bl true]) G → lLc (iStr3 (lC (.str "WROKLV"))) (gName3 6) tYes3 (lOp (rIn3 false) (lVar 6) (lVar 5)) [6] τ G R := by
    intro R τ hlen h5 hR
    let f : D → D := fun d => match d with
      | .str z => .bl (decide (z.cps.toList.headD 0 ∈ ("WV" : Str).cps.toList))
      | _ => .non
    refine lLc_map f (sgL "WROKLV") (fun R h => h) (by decide) ?_ ?_
    · intro j d G' hd hG Q' hq
      unfold sgL at hd
      obtain ⟨c, hc, rfl⟩ := List.mem_map.mp (List.mem_of_getElem? hd)
      have e6 : ((wipe3 τ [6]).set 6 (some (D.str ⟨#[c]⟩)))[5]? = some (some (.str "WV")) := by
        rw [List.getElem?_set_ne (by decide)]
        show (τ.set 6 none)[5]? = _
        rw [List.getElem?_set_ne (by decide)]
        exact h5
      have e7 : ((wipe3 τ [6]).set 6 (some (D.str ⟨#[c]⟩)))[6]? = some (some (D.str ⟨#[c]⟩)) := by
        rw [List.getElem?_set_self]
        show 6 < (τ.set 6 none).length
        rw [List.length_set, hlen]; decide
      unfold lOp lVar
      rw [e7]
      dsimp only
      rw [e6]
      dsimp only
      rw [q_sign]
      exact hq
    · have e : (sgL "WROKLV").map f = [.bl true, .bl false, .bl false, .bl false, .bl false, .bl true] := by rfl
      rw [e]; exact hR
  have dv : ∀ (kvs : List (Key × D)) (k : Key), dicOf G (D.dic (kdL [("Broken", "R"), ("Torn", "R"), ("Full", "O"), ("Gone", "KL"), ("NoFile", "L"), ("NoSlot", "L")])) = some kvs → keyD (D.str "NoDeed") = some k → (valD kvs k).getD (D.str "WV") = .str "WV" := fun kvs k h1 h2 => by
    cases h1; cases h2; rfl
  split
  · rename_i kvs k h1 h2
    refine inner _ _ rfl (by rw [dv kvs k h1 h2]; rfl) ?_
    have ok : okD (.lst [.bl true, .bl false, .bl false, .bl false, .bl false, .bl true]) := fine_ok (n := 1) rfl (by decide)
    show rNe3 (.lst [.bl true, .bl false, .bl false, .bl false, .bl false, .bl true]) (.lst [.bl true, .bl false, .bl false, .bl false, .bl false, .bl true]) G _
    rw [q_ne_ok ok ok, eqD_refl (n := 1) rfl]
    try dsimp only
    rw [Bool.not_true, if_neg Bool.false_ne_true]
    refine ⟨by decide +kernel, ?_⟩
    exact q
  · rename_i h
    exact h _ _ rfl rfl
end K69
end

section
set_option Elab.async false
set_option linter.all false
set_option maxRecDepth 100000
set_option maxHeartbeats 1000000
namespace K69
open PySem PySem.Spec PyProof.Rows L2 L3 PP PT SX LamX
def gApp : List D → List D → List D := fun ds es => ds ++ es
def tq5 (C cN pT : Addr) (qL : Str) (tt : Str → Addr → Addr → Deed → TS3) : TS3 := sSeq (sAsg (lCall sp_ldone [] (lCons (lVar 5) (lCons (lVar 7) (lCons (lVar 10) (lNil))))) (gName3 5)) (sSeq (sIf (lNot (lTest (lCall (sp_isso C) [] (lCons (lVar 3) (lCons (lVar 5) (lCons (lC (.int 0)) (lNil))))))) (sRet (lC (.bl false))) (sNext)) (sSeq (sDrop (lMeth C "flush" (sp_flush C) [] (lVar 3) lNil)) (sIf (lOr (lNot (lTest (lCall (sp_isso C) [] (lCons (lVar 3) (lCons (lVar 5) (lCons (lC (.int 0)) (lNil))))))) (lNot (lTest (lCall (sp_isso C) [] (lCons (lVar 8) (lCons (lVar 9) (lCons (lCB rLen3 (lCons (lVar 7) (lNil))) (lNil)))))))) (sRet (lC (.bl false))) (sNext))))
def tq4 (C cN pT : Addr) (qL : Str) (tt : Str → Addr → Addr → Deed → TS3) : TS3 := sSeq (sIf (lTest (lOp rNotN3 (lVar 13) (lC .non))) (sSeq (sIf (lNot (lTest (lCall (sp_isso C) [] (lCons (lVar 3) (lCons (lVar 9) (lCons (lCB rLen3 (lCons (lVar 7) (lNil))) (lNil))))))) (sRet (lC (.bl false))) (sNext)) (sSeq (sDrop (lMeth C "crash" (sp_crash0 C) [.tup []] (lVar 3) lNil)) (sAsg (lLst (lNil)) (gName3 10)))) (sNext)) (tq5 C cN pT qL tt)
def tq3 (C cN pT : Addr) (qL : Str) (tt : Str → Addr → Addr → Deed → TS3) : TS3 := sSeq (sIf (lOr (lTest (lOp rNe3 (lVar 14) (lOp rIx3 (lLst (lCons (lLst (lCons (lC (.str "!NoDeed")) (lCons (lVar 13) (lNil)))) (lCons (lLst (lCons (lC (.str "told")) (lCons (lC .non) (lNil)))) (lNil)))) (lCB rInt3' (lCons (lOp rIsN3 (lVar 13) (lC .non)) (lNil)))))) (lTest (lOp rNe3 (lRepr (lVar 11)) (lVar 12)))) (sRet (lC (.bl false))) (sNext)) (sSeq (sAsg (lOp rIx3 (lLst (lCons (lC .non) (lCons (lC (.int 1)) (lCons (lC (.str "1")) (lCons (lC (.bl true)) (lCons (lNeg (lC (.int 1))) (lNil))))))) (lCall sp_take [] (lCons (lVar 2) (lCons (lC (.int 5)) (lNil))))) (gName3 15)) (sSeq (sIf (lTest (lOp rNe3 (lLam [(pT, qL)] qL N__law_how (tt qL) (fun w => lMethN C "crash" 1 1 (spe_crash C cN) gApp (fun C d _ G => w C d G) (lVar 8) (lNil) (lCons (lVar 15) (lNil)))) (lLst (lCons (lC (.str "!NoDeed")) (lCons (lC .non) (lNil)))))) (sRet (lC (.bl false))) (sNext)) (sSeq (sIf (lNot (lTest (lCall (sp_isso C) [] (lCons (lVar 8) (lCons (lVar 9) (lCons (lCB rLen3 (lCons (lVar 7) (lNil))) (lNil))))))) (sRet (lC (.bl false))) (sNext)) (tq4 C cN pT qL tt))))
def tq2 (C cN pT : Addr) (qL : Str) (tt : Str → Addr → Addr → Deed → TS3) : TS3 := sSeq (sAsg (lCall (sp_lwait C) [] (lCons (lVar 2) (lCons (lVar 3) (lCons (lVar 5) (lCons (lCall sp_take [] (lCons (lVar 2) (lCons (lC (.int 8)) (lNil)))) (lNil)))))) (gName3 7)) (sSeq (sAsg (lMeth C "twin" (sp_twin C) [] (lVar 3) lNil) (gName3 8)) (sSeq (sAsg (lCall sp_lseen [] (lCons (lVar 5) (lCons (lVar 7) (lNil)))) (gName3 9)) (sSeq (sAsg (lCall sp_lpicks [] (lCons (lVar 2) (lCons (lVar 7) (lNil)))) (gName3 10)) (sSeq (sAsg (lOp rIx3 (lLst (lCons (lCB rList3 (lCons (lVar 10) (lNil))) (lCons (lCB rTuple3 (lCons (lVar 10) (lNil))) (lNil)))) (lCB rInt3' (lCons (lOp rEq3 (lCall sp_take [] (lCons (lVar 2) (lCons (lC (.int 3)) (lNil)))) (lC (.int 2))) (lNil)))) (gName3 11)) (sSeq (sAsg (lRepr (lVar 11)) (gName3 12)) (sSeq (sAsg (lCall sp_lwrong [] (lCons (lVar 10) (lCons (lVar 7) (lNil)))) (gName3 13)) (sSeq (sAsg (lLam [(pT, qL)] qL N__law_how (tt qL) (fun w => lMethN C "crash" 1 1 (spe_crash C cN) gApp (fun C d _ G => w C d G) (lVar 3) (lNil) (lCons (lVar 11) (lNil)))) (gName3 14)) (tq3 C cN pT qL tt))))))))
def tq1 (C cN pT : Addr) (qL : Str) (tt : Str → Addr → Addr → Deed → TS3) : TS3 := sSeq (sAsg (lCall sp_purse [] (lCons (lVar 0) (lCons (lVar 1) (lNil)))) (gName3 2)) (sSeq (sAsg (lMake C (sp_dinit C) [] lNil) (gName3 3)) (sSeq (sAsg (lCall (sp_lwait C) [] (lCons (lVar 2) (lCons (lVar 3) (lCons (lFrz (lDNew)) (lCons (lCall sp_take [] (lCons (lVar 2) (lCons (lC (.int 5)) (lNil)))) (lNil)))))) (gName3 4)) (sSeq (sDrop (lMeth C "flush" (sp_flush C) [] (lVar 3) lNil)) (sSeq (sAsg (lCall sp_lseen [] (lCons (lFrz (lDNew)) (lCons (lVar 4) (lNil)))) (gName3 5)) (sFor (iRg1 (lC (.int 2))) (gName3 6) (tq2 C cN pT qL tt))))))
theorem t_law_eq (C cN pT : Addr) (qL : Str) (tt : Str → Addr → Addr → Deed → TS3) : t_law sp_purse (sp_lwait C) sp_take sp_lseen sp_lpicks sp_lwrong (sp_isso C) sp_ldone C (sp_flush C) (sp_twin C) (sp_crash0 C) (sp_dinit C) [] (spe_crash C cN) gApp pT qL tt = sSeq (sFor (iRg1 (lCB rMax3 (lCons (lC (.int 3)) (lCons (lCB rMin3 (lCons (lCB rLen3 (lCons (lVar 0) (lNil))) (lCons (lC (.int 16)) (lNil)))) (lNil))))) (gName3 1) (tq1 C cN pT qL tt)) (sRet (lC (.bl true))) := rfl

/-! ### what stays -/
def KX (xs : List Addr) (G G' : Gp) : Prop := ∀ b o, b ∉ xs → G b = some o → (∀ ps, o ≠ .raw (.tbl ps)) → G' b = some o
theorem pu_kx {pr : Addr} {c : Nat} {G G' : Gp} {xs : List Addr} (h : Pu pr c G) (k : KX xs G G') (hx : pr ∉ xs) : Pu pr c G' := by
  obtain ⟨a, b, n, h1, r⟩ := h
  exact ⟨a, b, n, k _ _ hx h1 (fun ps z => by cases z), r⟩
theorem dk_kx {C p f q : Addr} {fs : FS} {dl : List Dd} {G G' : Gp} {xs : List Addr} (h : DiskAt C p f q fs dl G) (k : KX xs G G') (hp : p ∉ xs) (hf : f ∉ xs) (hq : q ∉ xs) : DiskAt C p f q fs dl G' :=
  ⟨k _ _ hp h.at_ (fun ps z => by cases z), k _ _ hf h.fl (fun ps z => by cases z), k _ _ hq h.qu (fun ps z => by cases z)⟩
theorem tab_kp {T : List (Addr × Str)} {xs : List Addr} {G G' : Gp} (h : TabsG T G) (k : Kp xs G G') (hx : ∀ x ∈ xs, ∀ r, G x ≠ some (.raw r)) : TabsG T G' := fun x hx2 => by
  obtain ⟨ps, e1, e2, e3⟩ := h x hx2
  have ne : ∀ {b : Addr} {r : HO}, G b = some (.raw r) → b ∉ xs := fun z w => hx _ w _ z
  refine ⟨ps, k _ _ (ne e1) e1, e2, fun pos cv hc => ?_⟩
  obtain ⟨d, e4, e5⟩ := e3 pos cv hc
  exact ⟨d, e4, k _ _ (ne e5) e5⟩
theorem nr_p {C p f q : Addr} {fs : FS} {dl : List Dd} {G : Gp} (d : DiskAt C p f q fs dl G) : (∀ r, G p ≠ some (.raw r)) ∧ (∀ r, G f ≠ some (.raw r)) ∧ ∀ r, G q ≠ some (.raw r) :=
  ⟨fun r e => (by have := d.at_; rw [e] at this; cases this), fun r e => (by have := d.fl; rw [e] at this; cases this), fun r e => (by have := d.qu; rw [e] at this; cases this)⟩
theorem nr_pu {pr : Addr} {c : Nat} {G : Gp} (h : Pu pr c G) : ∀ r, G pr ≠ some (.raw r) := fun r e => by
  obtain ⟨_, _, _, h1⟩ := pu_raw h
  rw [e] at h1; cases h1
/-! ### what is said of a crash -/
def ttH (K : PySem.W.Frag) (cNN cND cNF cT : Addr) : Str → Addr → Addr → Deed → TS3 := fun q f c' deed => tL__law_how K cNN cND cNF cT (spp_kind cND) q f c' deed
structure HowE (K : PySem.W.Frag) (cND cNF cT : Addr) : Prop where
  no : PySem.W.exmAny K (.ref cND) [.ref cNF, .ref cT] = some false
  yes : PySem.W.exmAny K (.ref cND) [.ref cND] = some true
section
variable {K : PySem.W.Frag} {C cNN cND cNF cT f c' : Addr} {q : Str} {G : Gp} {Q : K3} {deed : Deed} {p ff qu pT : Addr} {fs : FS} {dl : List Dd} {pd : D}
theorem how_told (hx : HowE K cND cNF cT) (hc : G c' = some (.raw (CodeO c' q))) (hd : ∀ w Q', spe_crash C cND [.ref p, pd] G Q' w → deed w G Q')
    (h : ∀ w Q', (∀ G', Q (.lst [.str "told", .non]) G' → Q' .non G') → (∀ d dd, G dd = none → Q (.lst [.str "!NoDeed", d]) (gup G dd (.xd [("at", d)])) → w cND (some dd) (gup G dd (.xd [("at", d)]))) → spe_crash C cND [.ref p, pd] G Q' w) : ttH K cNN cND cNF cT q f c' deed (D0 Q) (start3 N__law_how [.ref f]) G := by
  have hz : (2 : Nat) ≤ sizeLine := by decide
  unfold ttH tL__law_how
  refine ⟨rfl, hc, hd _ _ (h _ _ (fun G' hq => ?_) fun d dd hdd hq => ?_)⟩
  · exact ⟨hz, hq⟩
  · refine ⟨false, hx.no, fun z => (by cases z), fun _ => ⟨true, hx.yes, fun _ a ha => ?_, fun z => (by cases z)⟩⟩
    refine ⟨rfl, fun d2 e2 => ?_, rfl, ?_⟩
    · cases e2
      exact ⟨_, gup_same⟩
    · exact ⟨rfl, rfl, dd, _, d, rfl, gup_same, rfl, hz, hq⟩
theorem lam_crash {τ : T3} {i j : Nat} (hx : HowE K cND cNF cT) (hT : TabsG [(pT, q)] G) (hi : τ[i]? = some (some (.ref p))) (hj : τ[j]? = some (some pd)) (hd : DiskAt C p ff qu fs dl G) (hs : SmD dl) (hl : fs.length + dl.length < 500)
    (h : (∃ ps, (pd = .lst ps ∨ pd = .tup ps) ∧ (∀ d ∈ ps, PkOk d) ∧ (wrongP dl ps = none → ∀ q2 G', TabsG [(pT, q)] G' → DiskAt C p ff q2 (doneF fs (chosenF dl ps)) [] G' → KX [p, ff] G G' → Q (.lst [.str "told", .non]) G') ∧ (∀ i : Nat, wrongP dl ps = some i → ∀ G', TabsG [(pT, q)] G' → KX [] G G' → Q (.lst [.str "!NoDeed", .int (i : Int)]) G')) ∨
      (∃ k, (∀ G', kdOf G' pd = some k) ∧ isTy .list k = false ∧ isTy .tuple k = false ∧ ∀ G', TabsG [(pT, q)] G' → KX [] G G' → Q (.lst [.str "!NoDeed", .non]) G')) :
    lLam [(pT, q)] q N__law_how (ttH K cNN cND cNF cT q) (fun w => lMethN C "crash" 1 1 (spe_crash C cND) gApp (fun C d _ G => w C d G) (lVar i) lNil (lCons (lVar j) lNil)) τ G Q := by
  refine ⟨hT, fun G1 e1 t1 f c' hc => ?_⟩
  have hd1 : DiskAt C p ff qu fs dl G1 := dk_kx (xs := []) hd (fun b o _ e z => e1 b o e z) (by simp) (by simp) (by simp)
  have k1 : KX [] G G1 := fun b o _ e z => e1 b o e z
  refine how_told (C := C) (p := p) (pd := pd) hx hc (fun w Q' h => ?_) (fun w Q' hq hw => ?_)
  · dsimp only [lMethN, lVar, lCons, lNil]
    rw [hi]
    refine ⟨_, ins_ref hd1.at_, rfl, ?_⟩
    rw [hj]
    exact ⟨rfl, rfl, h⟩
  · refine ⟨p, ff, qu, fs, dl, pd, rfl, hd1, hs, hl, ?_⟩
    rcases h with ⟨ps, hpd, hpk, h0, h1⟩ | ⟨k, hk, h2, h3, h4⟩
    · refine .inl ⟨ps, hpd, hpk, fun hw2 q' G' hq' hd' hk' => hq G' (h0 hw2 q' G' ?_ hd' ?_), fun i hi2 dd hdd => hw _ dd hdd (h1 i hi2 _ (tabs_fresh t1 hdd) ?_)⟩
      · refine tab_kp t1 hk' fun x hx2 => ?_
        obtain ⟨n1, n2, n3⟩ := nr_p hd1
        rcases List.mem_cons.mp hx2 with rfl | hx2
        · exact n1
        · rw [List.mem_singleton.mp hx2]; exact n2
      · exact fun b o hb e z => hk' b o hb (k1 b o (by simp) e z)
      · exact fun b o hb e z => Kp.new hdd b o (by simp) (k1 b o (by simp) e z)
    · refine .inr ⟨k, hk G1, h2, h3, fun dd hdd => hw _ dd hdd (h4 _ (tabs_fresh t1 hdd) ?_)⟩
      exact fun b o hb e z => Kp.new hdd b o (by simp) (k1 b o (by simp) e z)
end
end K69
end

section
set_option Elab.async false
set_option linter.all false
set_option maxRecDepth 100000
set_option maxHeartbeats 1000000
namespace K69
open PySem PySem.Spec PyProof.Rows L2 L3 PP PT SX LamX
theorem tw_ne {C p f q p2 f2 q2 : Addr} {fs fs1 : FS} {dl dl1 : List Dd} {G : Gp} (d : DiskAt C p f q fs1 dl1 G) (t : DiskAt C p2 f2 q2 fs dl G) (h1 : p2 ≠ p) (h2 : f2 ≠ f) : p2 ∉ [p, f] ∧ f2 ∉ [p, f] ∧ q2 ∉ [p, f] := by
  have a1 := d.at_
  have a2 := d.fl
  have b1 := t.at_
  have b2 := t.fl
  have b3 := t.qu
  refine ⟨fun h => ?_, fun h => ?_, fun h => ?_⟩
  · rcases List.mem_cons.mp h with e | h
    · exact h1 e
    · rw [List.mem_singleton.mp h, a2] at b1; cases b1
  · rcases List.mem_cons.mp h with e | h
    · rw [e, a1] at b2; cases b2
    · exact h2 (List.mem_singleton.mp h)
  · rcases List.mem_cons.mp h with e | h
    · rw [e, a1] at b3; cases b3
    · rw [List.mem_singleton.mp h, a2] at b3; cases b3
theorem sm_nil : SmD [] := fun d h => by cases h
theorem dl_nil : DlOk [] := fun d h => by cases h
section
variable {C cN pT : Addr} {q : Str} {tt : Str → Addr → Addr → Deed → TS3} {Ds : Ends3} {sd : D} {pr p f qu p2 f2 q2 : Addr} {c : Nat} {fs : FS} {dl : List Dd} {G : Gp} {x1 x4 x6 x11 x12 x13 x14 x15 : Option D}
theorem p_tq5 {ns : List Int} (hT : TabsG [(pT, q)] G) (hP : Pu pr c G) (hd : DiskAt C p f qu (doneF fs (dl.zip ns)) [] G) (ht : DiskAt C p2 f2 q2 fs dl G) (n1 : p2 ≠ p) (n2 : f2 ≠ f) (hf : FsOk fs) (ho : DlOk dl) (hl : fs.length + dl.length < 50)
    (post : ∀ fs' f' q' G', TabsG [(pT, q)] G' → Pu pr c G' → DiskAt C p f' q' fs' [] G' → FsOk fs' → fs'.length ≤ fs.length + dl.length → Ds.nx [some sd, x1, some (.ref pr), some (.ref p), x4, some (.dic (fsD fs')), x6, some (.lst (dl.map deD)), some (.ref p2), some (.dic (fsD (seenF fs dl))), some (.lst (ns.map .int)), x11, x12, x13, x14, x15] G') :
    tq5 C cN pT q tt Ds [some sd, x1, some (.ref pr), some (.ref p), x4, some (.dic (fsD fs)), x6, some (.lst (dl.map deD)), some (.ref p2), some (.dic (fsD (seenF fs dl))), some (.lst (ns.map .int)), x11, x12, x13, x14, x15] G := by
  have hz : sizeLine = 2 ^ 24 := rfl
  have hfl : (doneF fs (dl.zip ns)).length ≤ fs.length + dl.length := by
    have h1 := done_len (dl.zip ns) fs
    have h2 : (dl.zip ns).length ≤ dl.length := by rw [List.length_zip]; omega
    omega
  have hfo : FsOk (doneF fs (dl.zip ns)) := done_ok _ _ hf fun x hx => ho _ (List.of_mem_zip hx).1
  simp only [tq5, u_lListRg, u_sRet, u_sRetN, ss_if, ss_asg, ss_drop, ss_ret, ss_retN, ss_next, ss_never, ss_break, ss_cont, ss_seq, ss_par, ss_aug, ss_gh, ss_fld, u_sIf, u_sNever, u_sNext, u_sDrop, u_sAsg, u_sPar, u_sAug, u_sGh, u_sBreak, u_sCont, u_lOp, u_lC, u_lVar, u_lTest, u_lNil, u_lCons, u_lAnd, u_lOr, u_lNot, u_lAndV, u_lOrV, u_lNotV, u_lIf, u_lChain, u_lTup, u_lLst, u_lLstG, u_lCB, u_lCall, u_lIsi, u_lIsi2, u_lSl, u_lNoPart, u_lPart, u_lNeg, u_lJoin, u_lSplit, u_lWords, u_gName3, u_gNil3, u_gCons3, u_gTup3, u_gStar3, u_gSub3, u_iLst3, u_iTup3, u_iStr3, u_iRg1, u_iRg2, u_iEnum3, u_iZip3, u_iZipT3, u_iZipS3, u_tYes3, u_lFld, u_lMeth, u_lMake, u_lFrz, u_lLm, u_lDNew, u_lDGet2, u_lDSetd, u_lCallA, u_sFld3, u_lDIn, u_lDIx, u_lDPop1, u_gDSub, u_gFld3, u_iLive, u_iZipL, u_iEnumQ3, u_lMethE, u_sRaise1, u_sRaise0, ss_raise1, ss_raise0, start3, List.map, List.append, List.length, List.replicate, List.set, List.cons_append, List.nil_append, List.getElem?_cons_zero, List.getElem?_cons_succ]
  refine ⟨_, _, fs, dl, ns, rfl, rfl, rfl, ho, by omega, ?_⟩
  try dsimp only
  refine ⟨p, f, qu, doneF fs (dl.zip ns), [], rfl, hd, hfo, dl_nil, by simp only [List.length_nil]; omega, fun G1 k1 => ?_⟩
  try dsimp only
  rw [Bool.not_true, if_neg Bool.false_ne_true]
  have hd1 := hd.keep k1 (by simp) (by simp) (by simp)
  have ht1 := ht.keep k1 (by simp) (by simp) (by simp)
  have hT1 := tab_kp hT k1 (fun x hx => by cases hx)
  have hP1 := pu_kp hP k1 (by simp)
  refine ⟨_, ins_ref hd1.at_, rfl, p, f, qu, _, [], rfl, hd1, by simp only [List.length_nil]; omega, sm_nil, fun f' q' G2 hf' hq' hd2 k2 => ?_⟩
  have hpr := (pu_p hP1 hd1).1
  have tn := tw_ne hd1 ht1 n1 n2
  have tn' : p2 ∉ [p] ∧ f2 ∉ [p] ∧ q2 ∉ [p] := ⟨fun h => tn.1 (by rw [List.mem_singleton.mp h]; simp), fun h => tn.2.1 (by rw [List.mem_singleton.mp h]; simp), fun h => tn.2.2 (by rw [List.mem_singleton.mp h]; simp)⟩
  have ht2 := ht1.keep k2 tn'.1 tn'.2.1 tn'.2.2
  have hT2 := tab_kp hT1 k2 (fun x hx => by rw [List.mem_singleton.mp hx]; exact (nr_p hd1).1)
  have hP2 := pu_kp hP1 k2 (by simpa using Ne.symm hpr)
  have hd2' : DiskAt C p f' q' (doneF fs (dl.zip ns)) [] G2 := hd2
  try dsimp only
  refine ⟨p, f', q', doneF fs (dl.zip ns), [], rfl, hd2', hfo, dl_nil, by simp only [List.length_nil]; omega, fun G3 k3 => ?_⟩
  have hd3 := hd2'.keep k3 (by simp) (by simp) (by simp)
  have ht3 := ht2.keep k3 (by simp) (by simp) (by simp)
  have hT3 := tab_kp hT2 k3 (fun x hx => by cases hx)
  have hP3 := pu_kp hP2 k3 (by simp)
  try dsimp only
  rw [Bool.not_true, if_neg Bool.false_ne_true, q_len_lst, List.length_map]
  refine ⟨p2, f2, q2, fs, dl, rfl, ht3, hf, ho, by omega, fun G4 k4 => ?_⟩
  have hd4 := hd3.keep k4 (by simp) (by simp) (by simp)
  try dsimp only
  rw [Bool.not_true, if_neg Bool.false_ne_true]
  exact post _ f' q' G4 (tab_kp hT3 k4 (fun x hx => by cases hx)) (pu_kp hP3 k4 (by simp)) hd4 hfo hfl
end
end K69
end

section
set_option Elab.async false
set_option linter.all false
set_option maxRecDepth 100000
set_option maxHeartbeats 1000000
namespace K69
open PySem PySem.Spec PyProof.Rows L2 L3 PP PT SX LamX
theorem ints_map : ∀ (ps : List D), (∀ d ∈ ps, ∃ n, d = .int n) → (intsP ps).map D.int = ps
  | [], _ => rfl
  | x :: r, h => by
    obtain ⟨n, rfl⟩ := h x List.mem_cons_self
    show D.int n :: (intsP r).map D.int = _
    rw [ints_map r fun d hd => h d (List.mem_cons_of_mem _ hd)]
theorem none_ints {dl : List Dd} {ps : List D} (h : wrongP dl ps = none) : (intsP ps).map D.int = ps := ints_map ps fun d hd => by
  obtain ⟨i, hi⟩ := List.getElem?_of_mem hd
  have hlt := (List.getElem?_eq_some_iff.mp hi).1
  have := wrong_none.mp h i hlt
  rw [getD_of hi] at this
  obtain ⟨n, e, h1, _⟩ := ok_int this
  exact ⟨n, h1⟩
theorem good_told : Good (.lst [.str "told", .non]) := ⟨by decide +kernel, by decide +kernel⟩
theorem good_nonD : Good (.lst [.str "!NoDeed", .non]) := ⟨by decide +kernel, by decide +kernel⟩
theorem good_at (i : Int) : Good (.lst [.str "!NoDeed", .int i]) := by
  refine (good_lst (n := 62) fun x hx => ?_).imp id fun h => Nat.le_trans h (by decide)
  simp only [List.mem_cons, List.not_mem_nil, or_false] at hx
  rcases hx with rfl | rfl
  · exact ⟨by decide +kernel, by decide +kernel⟩
  · exact ⟨rfl, Nat.zero_le _⟩
theorem kp_kx {xs : List Addr} {G G' : Gp} (k : Kp xs G G') : KX xs G G' := fun b o hb e _ => k b o hb e
theorem odd5 {r : Nat} (h : r < 5) : ∃ d k, ([.non, .int 1, .str "1", .bl true, .int (-1)] : List D)[r]? = some d ∧ (∀ G', kdOf G' d = some k) ∧ isTy .list k = false ∧ isTy .tuple k = false := by
  have : r = 0 ∨ r = 1 ∨ r = 2 ∨ r = 3 ∨ r = 4 := by omega
  rcases this with rfl | rfl | rfl | rfl | rfl
  · exact ⟨_, .non, rfl, fun _ => rfl, rfl, rfl⟩
  · exact ⟨_, .int, rfl, fun _ => rfl, rfl, rfl⟩
  · exact ⟨_, .str, rfl, fun _ => rfl, rfl, rfl⟩
  · exact ⟨_, .bool, rfl, fun _ => rfl, rfl, rfl⟩
  · exact ⟨_, .int, rfl, fun _ => rfl, rfl, rfl⟩
section
variable {K : PySem.W.Frag} {C cNN cN cNF cT pT : Addr} {q : Str} {tt : Str → Addr → Addr → Deed → TS3} {Ds : Ends3} {sd : D} {pr p f qu p2 f2 q2 : Addr} {c : Nat} {fs : FS} {dl : List Dd} {ps : List D} {G : Gp} {x1 x4 x6 x11 x12 x14 x15 : Option D}
/-- where the disk is after a try -/
def Tried (C p f qu : Addr) (fs : FS) (dl : List Dd) (ps : List D) (G : Gp) : Prop := (wrongP dl ps = none ∧ DiskAt C p f qu (doneF fs (chosenF dl ps)) [] G) ∨ (∃ i, wrongP dl ps = some i ∧ DiskAt C p f qu fs dl G)
def Post (Ds : Ends3) (pT : Addr) (q : Str) (C : Addr) (sd : D) (x1 : Option D) (pr p : Addr) (x4 x6 : Option D) (c : Nat) (n : Nat) : Prop := ∀ fs' f' q' x7 x8 x9 x10 x11 x12 x13 x14 x15 G', TabsG [(pT, q)] G' → Pu pr c G' → DiskAt C p f' q' fs' [] G' → FsOk fs' → fs'.length ≤ n → Ds.nx [some sd, x1, some (.ref pr), some (.ref p), x4, some (.dic (fsD fs')), x6, x7, x8, x9, x10, x11, x12, x13, x14, x15] G'
theorem p_tq4 (hT : TabsG [(pT, q)] G) (hP : Pu pr c G) (hd : Tried C p f qu fs dl ps G) (ht : DiskAt C p2 f2 q2 fs dl G) (n1 : p2 ≠ p) (n2 : f2 ≠ f) (hf : FsOk fs) (ho : DlOk dl) (hl : fs.length + dl.length < 50)
    (post : Post Ds pT q C sd x1 pr p x4 x6 c (fs.length + dl.length)) :
    tq4 C cN pT q tt Ds [some sd, x1, some (.ref pr), some (.ref p), x4, some (.dic (fsD fs)), x6, some (.lst (dl.map deD)), some (.ref p2), some (.dic (fsD (seenF fs dl))), some (.lst ps), x11, x12, some (wrongD dl ps), x14, x15] G := by
  have hz : sizeLine = 2 ^ 24 := rfl
  simp only [tq4, u_lListRg, u_sRet, u_sRetN, ss_if, ss_asg, ss_drop, ss_ret, ss_retN, ss_next, ss_never, ss_break, ss_cont, ss_seq, ss_par, ss_aug, ss_gh, ss_fld, u_sIf, u_sNever, u_sNext, u_sDrop, u_sAsg, u_sPar, u_sAug, u_sGh, u_sBreak, u_sCont, u_lOp, u_lC, u_lVar, u_lTest, u_lNil, u_lCons, u_lAnd, u_lOr, u_lNot, u_lAndV, u_lOrV, u_lNotV, u_lIf, u_lChain, u_lTup, u_lLst, u_lLstG, u_lCB, u_lCall, u_lIsi, u_lIsi2, u_lSl, u_lNoPart, u_lPart, u_lNeg, u_lJoin, u_lSplit, u_lWords, u_gName3, u_gNil3, u_gCons3, u_gTup3, u_gStar3, u_gSub3, u_iLst3, u_iTup3, u_iStr3, u_iRg1, u_iRg2, u_iEnum3, u_iZip3, u_iZipT3, u_iZipS3, u_tYes3, u_lFld, u_lMeth, u_lMake, u_lFrz, u_lLm, u_lDNew, u_lDGet2, u_lDSetd, u_lCallA, u_sFld3, u_lDIn, u_lDIx, u_lDPop1, u_gDSub, u_gFld3, u_iLive, u_iZipL, u_iEnumQ3, u_lMethE, u_sRaise1, u_sRaise0, ss_raise1, ss_raise0, start3, List.map, List.append, List.length, List.replicate, List.set, List.cons_append, List.nil_append, List.getElem?_cons_zero, List.getElem?_cons_succ]
  rcases hd with ⟨hw, hd⟩ | ⟨i, hw, hd⟩
  · have e13 : wrongD dl ps = .non := by unfold wrongD; rw [hw]
    rw [e13, q_notn]
    try dsimp only [isNonD]
    rw [Bool.not_true, if_neg Bool.false_ne_true]
    have em := none_ints hw
    have ec : chosenF dl ps = dl.zip (intsP ps) := rfl
    rw [ec] at hd
    rw [← em]
    exact p_tq5 hT hP hd ht n1 n2 hf ho hl fun fs' f' q' G' a b c d e => post fs' f' q' _ _ _ _ _ _ _ _ _ G' a b c d e
  · have e13 : wrongD dl ps = .int (i : Int) := by unfold wrongD; rw [hw]
    rw [e13, q_notn]
    try dsimp only [isNonD]
    rw [Bool.not_false, if_pos rfl, q_len_lst, List.length_map]
    refine ⟨p, f, qu, fs, dl, rfl, hd, hf, ho, by omega, fun G1 k1 => ?_⟩
    have hd1 := hd.keep k1 (by simp) (by simp) (by simp)
    have ht1 := ht.keep k1 (by simp) (by simp) (by simp)
    have hT1 := tab_kp hT k1 (fun x hx => by cases hx)
    have hP1 := pu_kp hP k1 (by simp)
    try dsimp only
    rw [Bool.not_true, if_neg Bool.false_ne_true]
    refine ⟨_, ins_ref hd1.at_, rfl, p, f, qu, fs, dl, rfl, hd1, fun q' G2 hq' hd2 k2 => ?_⟩
    have hpr := (pu_p hP1 hd1).1
    have tn := tw_ne hd1 ht1 n1 n2
    have tn' : p2 ∉ [p] ∧ f2 ∉ [p] ∧ q2 ∉ [p] := ⟨fun h => tn.1 (by rw [List.mem_singleton.mp h]; simp), fun h => tn.2.1 (by rw [List.mem_singleton.mp h]; simp), fun h => tn.2.2 (by rw [List.mem_singleton.mp h]; simp)⟩
    have ht2 := ht1.keep k2 tn'.1 tn'.2.1 tn'.2.2
    have hT2 := tab_kp hT1 k2 (fun x hx => by rw [List.mem_singleton.mp hx]; exact (nr_p hd1).1)
    have hP2 := pu_kp hP1 k2 (by simpa using Ne.symm hpr)
    try dsimp only
    refine ⟨by decide, ?_⟩
    have ez : doneF fs (dl.zip ([] : List Int)) = fs := by rw [List.zip_nil_right]; rfl
    exact p_tq5 (ns := []) hT2 hP2 (by rw [ez]; exact hd2) ht2 n1 n2 hf ho hl fun fs' f' q' G' a b c d e => post fs' f' q' _ _ _ _ _ _ _ _ _ G' a b c d e
theorem p_tq3 {x : D} (hx : HowE K cN cNF cT) (hT : TabsG [(pT, q)] G) (hP : Pu pr c G) (hc : c ≤ 2000) (hd : Tried C p f qu fs dl ps G) (ht : DiskAt C p2 f2 q2 fs dl G) (n1 : p2 ≠ p) (n2 : f2 ≠ f) (hf : FsOk fs) (ho : DlOk dl) (hl : fs.length + dl.length < 50)
    (hpk : ∀ d ∈ ps, PkR d) (hpl : ps.length ≤ 9) (hxx : x = .lst ps ∨ x = .tup ps)
    (post : Post Ds pT q C sd x1 pr p x4 x6 (c + 1) (fs.length + dl.length)) :
    tq3 C cN pT q (ttH K cNN cN cNF cT) Ds [some sd, x1, some (.ref pr), some (.ref p), x4, some (.dic (fsD fs)), x6, some (.lst (dl.map deD)), some (.ref p2), some (.dic (fsD (seenF fs dl))), some (.lst ps), some x, some (.str (py x).shown), some (wrongD dl ps), some (match wrongP dl ps with | none => .lst [.str "told", .non] | some i => .lst [.str "!NoDeed", .int (i : Int)]), x15] G := by
  have hz : sizeLine = 2 ^ 24 := rfl
  have hrep := pks_repr hpk (by omega) x hxx
  simp only [tq3, lRepr, u_lListRg, u_sRet, u_sRetN, ss_if, ss_asg, ss_drop, ss_ret, ss_retN, ss_next, ss_never, ss_break, ss_cont, ss_seq, ss_par, ss_aug, ss_gh, ss_fld, u_sIf, u_sNever, u_sNext, u_sDrop, u_sAsg, u_sPar, u_sAug, u_sGh, u_sBreak, u_sCont, u_lOp, u_lC, u_lVar, u_lTest, u_lNil, u_lCons, u_lAnd, u_lOr, u_lNot, u_lAndV, u_lOrV, u_lNotV, u_lIf, u_lChain, u_lTup, u_lLst, u_lLstG, u_lCB, u_lCall, u_lIsi, u_lIsi2, u_lSl, u_lNoPart, u_lPart, u_lNeg, u_lJoin, u_lSplit, u_lWords, u_gName3, u_gNil3, u_gCons3, u_gTup3, u_gStar3, u_gSub3, u_iLst3, u_iTup3, u_iStr3, u_iRg1, u_iRg2, u_iEnum3, u_iZip3, u_iZipT3, u_iZipS3, u_tYes3, u_lFld, u_lMeth, u_lMake, u_lFrz, u_lLm, u_lDNew, u_lDGet2, u_lDSetd, u_lCallA, u_sFld3, u_lDIn, u_lDIx, u_lDPop1, u_gDSub, u_gFld3, u_iLive, u_iZipL, u_iEnumQ3, u_lMethE, u_sRaise1, u_sRaise0, ss_raise1, ss_raise0, start3, List.map, List.append, List.length, List.replicate, List.set, List.cons_append, List.nil_append, List.getElem?_cons_zero, List.getElem?_cons_succ]
  have hpick : ∀ Q' : K3, Q' (.bl false) G → ((2 : Nat) ≤ sizeLine ∧ (2 : Nat) ≤ sizeLine ∧ (2 : Nat) ≤ sizeLine ∧ rIsN3 (wrongD dl ps) .non G fun d G3 => rInt3' [d] G3 fun i G4 => rIx3 (.lst [.lst [.str "!NoDeed", wrongD dl ps], .lst [.str "told", .non]]) i G4 fun y G5 => rNe3 (match wrongP dl ps with | none => .lst [.str "told", .non] | some i => .lst [.str "!NoDeed", .int (i : Int)]) y G5 Q') := fun Q' hQ => by
    refine ⟨by decide, by decide, by decide, ?_⟩
    unfold wrongD
    cases e : wrongP dl ps with
    | none =>
      dsimp only
      rw [q_isn]
      show rInt3' [.bl true] G _
      rw [q_int]
      show rIx3 _ (.int 1) G _
      rw [q_lx1, q_ne_good good_told]
      exact hQ
    | some i =>
      dsimp only
      rw [q_isn]
      show rInt3' [.bl false] G _
      rw [q_int]
      show rIx3 _ (.int 0) G _
      rw [q_lx0, q_ne_good (good_at _)]
      exact hQ
  refine hpick _ ?_
  try dsimp only
  rw [if_neg Bool.false_ne_true]
  refine ⟨hrep.1, hrep.2.1, hrep.2.2.1, hrep.2.2.2, ?_⟩
  rw [q_ne_str, decide_eq_true rfl]
  try dsimp only
  rw [Bool.not_true, if_neg Bool.false_ne_true]
  refine ⟨by decide, pr, 5, c, rfl, by decide, by decide, by omega, hP, fun r G1 hr hP1 hS1 => ?_⟩
  have hT1 := pu_tab hT hP hS1
  have ht1 := ht.sb hP hS1
  have hd1 : Tried C p f qu fs dl ps G1 := by
    rcases hd with ⟨hw, hd⟩ | ⟨i, hw, hd⟩
    · exact .inl ⟨hw, hd.sb hP hS1⟩
    · exact .inr ⟨i, hw, hd.sb hP hS1⟩
  obtain ⟨o, k, h1, h2, h3, h4⟩ := odd5 hr
  try dsimp only
  rw [q_ix_lst h1]
  try dsimp only
  refine lam_crash (p := p2) (ff := f2) (qu := q2) (fs := fs) (dl := dl) (pd := o) hx hT1 rfl rfl ht1 ho.sm (by omega) (.inr ⟨k, h2, h3, h4, fun G2 hT2 k2 => ?_⟩)
  have ht2 := dk_kx ht1 k2 (by simp) (by simp) (by simp)
  have hP2 := pu_kx hP1 k2 (by simp)
  have hd2 : Tried C p f qu fs dl ps G2 := by
    rcases hd1 with ⟨hw, hd⟩ | ⟨i, hw, hd⟩
    · exact .inl ⟨hw, dk_kx hd k2 (by simp) (by simp) (by simp)⟩
    · exact .inr ⟨i, hw, dk_kx hd k2 (by simp) (by simp) (by simp)⟩
  try dsimp only
  refine ⟨by decide, ?_⟩
  rw [q_ne_good good_nonD]
  try dsimp only
  rw [if_neg Bool.false_ne_true, q_len_lst, List.length_map]
  refine ⟨p2, f2, q2, fs, dl, rfl, ht2, hf, ho, by omega, fun G3 k3 => ?_⟩
  try dsimp only
  rw [Bool.not_true, if_neg Bool.false_ne_true]
  have hd3 : Tried C p f qu fs dl ps G3 := by
    rcases hd2 with ⟨hw, hd⟩ | ⟨i, hw, hd⟩
    · exact .inl ⟨hw, hd.keep k3 (by simp) (by simp) (by simp)⟩
    · exact .inr ⟨i, hw, hd.keep k3 (by simp) (by simp) (by simp)⟩
  exact p_tq4 (tab_kp hT2 k3 (fun x hx => by cases hx)) (pu_kp hP2 k3 (by simp)) hd3 (ht2.keep k3 (by simp) (by simp) (by simp)) n1 n2 hf ho hl post
end
end K69
end

section
set_option Elab.async false
set_option linter.all false
set_option maxRecDepth 100000
set_option maxHeartbeats 1000000
namespace K69
open PySem PySem.Spec PyProof.Rows L2 L3 PP PT SX LamX
section
variable {K : PySem.W.Frag} {C cNN cN cNF cT pT : Addr} {q : Str} {Ds : Ends3} {sd : D} {pr p f qu : Addr} {c : Nat} {fs : FS} {G : Gp} {x1 x4 x6 x7 x8 x9 x10 x11 x12 x13 x14 x15 : Option D}
theorem fresh_kp {xs : List Addr} {G G' : Gp} (k : Kp xs G G') {x : Addr} (hx : G' x = none) (hn : x ∉ xs) : G x = none := by
  cases e : G x with
  | none => rfl
  | some o => rw [k x o hn e] at hx; cases hx
theorem p_tq2 (hx : HowE K cN cNF cT) (hT : TabsG [(pT, q)] G) (hP : Pu pr c G) (hc : c ≤ 800) (hd : DiskAt C p f qu fs [] G) (hf : FsOk fs) (hl : fs.length ≤ 40)
    (post : Post Ds pT q C sd x1 pr p x4 x6 (c + 200) (fs.length + 7)) :
    tq2 C cN pT q (ttH K cNN cN cNF cT) Ds [some sd, x1, some (.ref pr), some (.ref p), x4, some (.dic (fsD fs)), x6, x7, x8, x9, x10, x11, x12, x13, x14, x15] G := by
  have hz : sizeLine = 2 ^ 24 := rfl
  simp only [tq2, lRepr, u_lListRg, u_sRet, u_sRetN, ss_if, ss_asg, ss_drop, ss_ret, ss_retN, ss_next, ss_never, ss_break, ss_cont, ss_seq, ss_par, ss_aug, ss_gh, ss_fld, u_sIf, u_sNever, u_sNext, u_sDrop, u_sAsg, u_sPar, u_sAug, u_sGh, u_sBreak, u_sCont, u_lOp, u_lC, u_lVar, u_lTest, u_lNil, u_lCons, u_lAnd, u_lOr, u_lNot, u_lAndV, u_lOrV, u_lNotV, u_lIf, u_lChain, u_lTup, u_lLst, u_lLstG, u_lCB, u_lCall, u_lIsi, u_lIsi2, u_lSl, u_lNoPart, u_lPart, u_lNeg, u_lJoin, u_lSplit, u_lWords, u_gName3, u_gNil3, u_gCons3, u_gTup3, u_gStar3, u_gSub3, u_iLst3, u_iTup3, u_iStr3, u_iRg1, u_iRg2, u_iEnum3, u_iZip3, u_iZipT3, u_iZipS3, u_tYes3, u_lFld, u_lMeth, u_lMake, u_lFrz, u_lLm, u_lDNew, u_lDGet2, u_lDSetd, u_lCallA, u_sFld3, u_lDIn, u_lDIx, u_lDPop1, u_gDSub, u_gFld3, u_iLive, u_iZipL, u_iEnumQ3, u_lMethE, u_sRaise1, u_sRaise0, ss_raise1, ss_raise0, start3, List.map, List.append, List.length, List.replicate, List.set, List.cons_append, List.nil_append, List.getElem?_cons_zero, List.getElem?_cons_succ]
  refine ⟨pr, 8, c, rfl, by decide, by decide, by omega, hP, fun n G1 hn hP1 hS1 => ?_⟩
  have hT1 := pu_tab hT hP hS1
  have hd1 := hd.sb hP hS1
  try dsimp only
  refine ⟨pr, p, f, qu, .dic (fsD fs), fs, n, c + 1, rfl, hd1, rfl, fun _ => rfl, hf, by omega, by omega, by omega, hP1, fun dl G2 hdl ho hd2 hP2 k2 => ?_⟩
  have hT2 := tab_kp hT1 k2 (fun x hx => by
    rcases List.mem_cons.mp hx with rfl | hx
    · exact nr_pu hP1
    · rw [List.mem_singleton.mp hx]; exact (nr_p hd1).2.2)
  try dsimp only
  refine ⟨_, ins_ref hd2.at_, rfl, p, f, qu, fs, dl, rfl, hd2, fun p2 f2 q2 G3 hp2 hf2 hq2 ht3 k3 => ?_⟩
  have n1 : p2 ≠ p := fun e => by rw [e, hd2.at_] at hp2; cases hp2
  have n2 : f2 ≠ f := fun e => by rw [e, hd2.fl] at hf2; cases hf2
  have hd3 := hd2.keep k3 (by simp) (by simp) (by simp)
  have hT3 := tab_kp hT2 k3 (fun x hx => by cases hx)
  have hP3 := pu_kp hP2 k3 (by simp)
  try dsimp only
  refine ⟨_, _, fs, dl, rfl, rfl, rfl, ho, by omega, ?_⟩
  try dsimp only
  refine ⟨pr, c + 1 + 16 * n, dl, rfl, ho, by omega, by omega, hP3, fun ps G4 hpl hpk hP4 hS4 => ?_⟩
  have hT4 := pu_tab hT3 hP3 hS4
  have hd4 := hd3.sb hP3 hS4
  have ht4 := ht3.sb hP3 hS4
  try dsimp only
  rw [q_listL]
  try dsimp only
  rw [q_tupL]
  refine ⟨by decide, pr, 3, c + 1 + 16 * n + 30, rfl, by decide, by decide, by omega, hP4, fun r G5 hr hP5 hS5 => ?_⟩
  have hT5 := pu_tab hT4 hP4 hS5
  have hd5 := hd4.sb hP4 hS5
  have ht5 := ht4.sb hP4 hS5
  try dsimp only
  rw [q_eq_int]
  try dsimp only
  rw [q_int]
  try dsimp only
  have hpick : ∀ Q' : K3, (∀ x, (x = .lst ps ∨ x = .tup ps) → Q' x G5) → rIx3 (.lst [.lst ps, .tup ps]) (.int (if decide ((r : Int) = 2) = true then 1 else 0)) G5 Q' := fun Q' h => by
    by_cases e : (r : Int) = 2
    · rw [decide_eq_true e, if_pos rfl, q_lx1]
      exact h _ (.inr rfl)
    · rw [decide_eq_false e, if_neg Bool.false_ne_true, q_lx0]
      exact h _ (.inl rfl)
  refine hpick _ fun x hxx => ?_
  have hrep := pks_repr hpk (by omega) x hxx
  try dsimp only
  refine ⟨hrep.1, hrep.2.1, hrep.2.2.1, hrep.2.2.2, ?_⟩
  try dsimp only
  refine ⟨ps, .lst (dl.map deD), dl, rfl, rfl, ho, by omega, by omega, fun d hd => (hpk d hd).1, ?_⟩
  try dsimp only
  have post' : ∀ c', c' ≤ c + 200 → Post Ds pT q C sd x1 pr p x4 x6 c' (fs.length + dl.length) := fun c' hc' fs' f' q' _ _ _ _ _ _ _ _ _ G' a b cc d e => post fs' f' q' _ _ _ _ _ _ _ _ _ G' a (b.up hc') cc d (by omega)
  refine lam_crash (p := p) (ff := f) (qu := qu) (fs := fs) (dl := dl) (pd := x) hx hT5 rfl rfl hd5 ho.sm (by omega) (.inl ⟨ps, hxx, fun d hd => (hpk d hd).1, fun hw q' G6 hT6 hd6 k6 => ?_, fun i hw G6 hT6 k6 => ?_⟩)
  · have hpr := pu_p hP5 hd5
    have tn := tw_ne hd5 ht5 n1 n2
    have ht6 := dk_kx ht5 k6 tn.1 tn.2.1 tn.2.2
    have hP6 := pu_kx hP5 k6 (by simp only [List.mem_cons, List.not_mem_nil, or_false, not_or]; exact ⟨Ne.symm hpr.1, Ne.symm hpr.2.1⟩)
    have := p_tq3 (K := K) (cNN := cNN) (cN := cN) (cNF := cNF) (cT := cT) (sd := sd) (Ds := Ds) (x1 := x1) (x4 := x4) (x6 := x6) (x15 := x15) (x := x) hx hT6 hP6 (by omega) (.inl ⟨hw, hd6⟩) ht6 n1 n2 hf ho (by omega) hpk hpl hxx (post' _ (by omega))
    rw [hw] at this
    exact this
  · have ht6 := dk_kx ht5 k6 (by simp) (by simp) (by simp)
    have hd6 := dk_kx hd5 k6 (by simp) (by simp) (by simp)
    have hP6 := pu_kx hP5 k6 (by simp)
    have := p_tq3 (K := K) (cNN := cNN) (cN := cN) (cNF := cNF) (cT := cT) (sd := sd) (Ds := Ds) (x1 := x1) (x4 := x4) (x6 := x6) (x15 := x15) (x := x) hx hT6 hP6 (by omega) (.inr ⟨i, hw, hd6⟩) ht6 n1 n2 hf ho (by omega) hpk hpl hxx (post' _ (by omega))
    rw [hw] at this
    exact this
def W15 (sd : D) (τ : T3) : Prop := ∃ x1 x2 x3 x4 x5 x6 x7 x8 x9 x10 x11 x12 x13 x14 x15, τ = [some sd, x1, x2, x3, x4, x5, x6, x7, x8, x9, x10, x11, x12, x13, x14, x15]
theorem fsOk_nil : FsOk [] := fun x h => by cases h
def sp_law (pT : Addr) (q : Str) : Sp3 := fun ds G Q => ∃ sd ns, IsScr sd ns ∧ ds = [sd] ∧ TabsG [(pT, q)] G ∧ ∀ G', Q (.bl true) G'
theorem p_law (hx : HowE K cN cNF cT) (ds : List D) (G : Gp) (Q : K3) (h : sp_law pT q ds G Q) :
    t_law sp_purse (sp_lwait C) sp_take sp_lseen sp_lpicks sp_lwrong (sp_isso C) sp_ldone C (sp_flush C) (sp_twin C) (sp_crash0 C) (sp_dinit C) [] (spe_crash C cN) gApp pT q (ttH K cNN cN cNF cT) (D0 Q) (start3 N_law ds) G := by
  obtain ⟨sd, ns, hs, rfl, hT, fin⟩ := h
  have hz : sizeLine = 2 ^ 24 := rfl
  rw [t_law_eq]
  simp only [N_law, ss_for, u_sFor, u_lListRg, u_sRet, u_sRetN, ss_if, ss_asg, ss_drop, ss_ret, ss_retN, ss_next, ss_never, ss_break, ss_cont, ss_seq, ss_par, ss_aug, ss_gh, ss_fld, u_sIf, u_sNever, u_sNext, u_sDrop, u_sAsg, u_sPar, u_sAug, u_sGh, u_sBreak, u_sCont, u_lOp, u_lC, u_lVar, u_lTest, u_lNil, u_lCons, u_lAnd, u_lOr, u_lNot, u_lAndV, u_lOrV, u_lNotV, u_lIf, u_lChain, u_lTup, u_lLst, u_lLstG, u_lCB, u_lCall, u_lIsi, u_lIsi2, u_lSl, u_lNoPart, u_lPart, u_lNeg, u_lJoin, u_lSplit, u_lWords, u_gName3, u_gNil3, u_gCons3, u_gTup3, u_gStar3, u_gSub3, u_iLst3, u_iTup3, u_iStr3, u_iRg1, u_iRg2, u_iEnum3, u_iZip3, u_iZipT3, u_iZipS3, u_tYes3, u_lFld, u_lMeth, u_lMake, u_lFrz, u_lLm, u_lDNew, u_lDGet2, u_lDSetd, u_lCallA, u_sFld3, u_lDIn, u_lDIx, u_lDPop1, u_gDSub, u_gFld3, u_iLive, u_iZipL, u_iEnumQ3, u_lMethE, u_sRaise1, u_sRaise0, ss_raise1, ss_raise0, start3, List.map, List.append, List.length, List.replicate, List.set, List.cons_append, List.nil_append, List.getElem?_cons_zero, List.getElem?_cons_succ]
  rw [q_len_is hs]
  try dsimp only
  show rMin3 [.int _, .int 16] G _
  simp only [rMin3, rMax3]
  refine ⟨?_, fun i τ G' => TabsG [(pT, q)] G' ∧ W15 sd τ, ⟨hT, _, _, _, _, _, _, _, _, _, _, _, _, _, _, _, rfl⟩, ?_, ?_⟩
  · repeat' split
    all_goals omega
  · rintro i d τ G1 hd ⟨hT1, x1, x2, x3, x4, x5, x6, x7, x8, x9, x10, x11, x12, x13, x14, x15, rfl⟩
    have hi := (List.getElem?_eq_some_iff.mp hd).1
    rw [rgL_len] at hi
    rw [rgL_get hi, Int.zero_add] at hd
    cases Option.some.inj hd
    simp only [tq1, ss_for, u_sFor, u_lListRg, u_sRet, u_sRetN, ss_if, ss_asg, ss_drop, ss_ret, ss_retN, ss_next, ss_never, ss_break, ss_cont, ss_seq, ss_par, ss_aug, ss_gh, ss_fld, u_sIf, u_sNever, u_sNext, u_sDrop, u_sAsg, u_sPar, u_sAug, u_sGh, u_sBreak, u_sCont, u_lOp, u_lC, u_lVar, u_lTest, u_lNil, u_lCons, u_lAnd, u_lOr, u_lNot, u_lAndV, u_lOrV, u_lNotV, u_lIf, u_lChain, u_lTup, u_lLst, u_lLstG, u_lCB, u_lCall, u_lIsi, u_lIsi2, u_lSl, u_lNoPart, u_lPart, u_lNeg, u_lJoin, u_lSplit, u_lWords, u_gName3, u_gNil3, u_gCons3, u_gTup3, u_gStar3, u_gSub3, u_iLst3, u_iTup3, u_iStr3, u_iRg1, u_iRg2, u_iEnum3, u_iZip3, u_iZipT3, u_iZipS3, u_tYes3, u_lFld, u_lMeth, u_lMake, u_lFrz, u_lLm, u_lDNew, u_lDGet2, u_lDSetd, u_lCallA, u_sFld3, u_lDIn, u_lDIx, u_lDPop1, u_gDSub, u_gFld3, u_iLive, u_iZipL, u_iEnumQ3, u_lMethE, u_sRaise1, u_sRaise0, ss_raise1, ss_raise0, start3, List.map, List.append, List.length, List.replicate, List.set, List.cons_append, List.nil_append, List.getElem?_cons_zero, List.getElem?_cons_succ]
    refine ⟨sd, ns, i, hs, rfl, fun pr G2 hpr hP2 hS2 => ?_⟩
    have hT2 := new_tab hT1 hpr hS2
    intro p hp
    refine ⟨p, rfl, gup_same, fun f qu G3 hf hq hd3 k3 => ⟨rfl, ?_⟩⟩
    have k3' : Kp [] G2 G3 := (Kp.new hp).trans k3 (fun x hx => .inr (by rw [List.mem_singleton.mp hx]; exact hp))
    have hT3 := tab_kp hT2 k3' (fun x hx => by cases hx)
    have hP3 := pu_kp hP2 k3' (by simp)
    try dsimp only
    intro z hz1
    simp only [gup_same]
    rw [gdel_gup hz1]
    refine ⟨pr, 5, 0, rfl, by decide, by decide, by omega, hP3, fun n G4 hn hP4 hS4 => ?_⟩
    have hT4 := pu_tab hT3 hP3 hS4
    have hd4 := hd3.sb hP3 hS4
    try dsimp only
    refine ⟨pr, p, f, qu, .dic [], [], n, 1, rfl, hd4, rfl, fun _ => rfl, fsOk_nil, by simp, by omega, by omega, hP4, fun dl G5 hdl ho hd5 hP5 k5 => ?_⟩
    have hT5 := tab_kp hT4 k5 (fun x hx => by
      rcases List.mem_cons.mp hx with rfl | hx
      · exact nr_pu hP4
      · rw [List.mem_singleton.mp hx]; exact (nr_p hd4).2.2)
    try dsimp only
    refine ⟨_, ins_ref hd5.at_, rfl, p, f, qu, [], dl, rfl, hd5, by simp only [List.length_nil]; omega, ho.sm, fun f' q' G6 hf' hq' hd6 k6 => ?_⟩
    have hpr6 := (pu_p hP5 hd5).1
    have hT6 := tab_kp hT5 k6 (fun x hx => by rw [List.mem_singleton.mp hx]; exact (nr_p hd5).1)
    have hP6 := pu_kp hP5 k6 (by simpa using Ne.symm hpr6)
    try dsimp only
    intro y hy1
    try simp only [gup_same]
    rw [gdel_gup hy1]
    refine ⟨.dic [], .lst (dl.map deD), [], dl, rfl, rfl, rfl, ho, by simp only [List.length_nil]; omega, ?_⟩
    try dsimp only
    have hsl := seen_len dl []
    rw [List.length_nil] at hsl
    refine ⟨by decide, fun i' τ G' => (∃ fs f q2 x6 x7 x8 x9 x10 x11 x12 x13 x14 x15, τ = [some sd, some (.int (i : Int)), some (.ref pr), some (.ref p), some (.lst (dl.map deD)), some (.dic (fsD fs)), x6, x7, x8, x9, x10, x11, x12, x13, x14, x15] ∧ DiskAt C p f q2 fs [] G' ∧ FsOk fs ∧ fs.length ≤ 5 + 7 * i') ∧ TabsG [(pT, q)] G' ∧ Pu pr (100 + 200 * i') G', ⟨⟨seenF [] dl, f', q', _, _, _, _, _, _, _, _, _, _, rfl, hd6, seen_ok fsOk_nil ho, by omega⟩, hT6, hP6.up (by omega)⟩, ?_, ?_⟩
    · rintro i' d τ G7 hd7 ⟨⟨fs, f7, q7, x6, x7, x8, x9, x10, x11, x12, x13, x14, x15, rfl, hd7', hf7, hl7⟩, hT7, hP7⟩
      have hi' := (List.getElem?_eq_some_iff.mp hd7).1
      rw [rgL_len] at hi'
      have hi2 : i' < 2 := hi'
      refine p_tq2 hx hT7 hP7 (by omega) hd7' hf7 (by omega) ?_
      intro fs' f8 q8 y7 y8 y9 y10 y11 y12 y13 y14 y15 G8 hT8 hP8 hd8 hf8 hl8
      exact ⟨⟨fs', f8, q8, _, _, _, _, _, _, _, _, _, _, rfl, hd8, hf8, by omega⟩, hT8, hP8.up (by omega)⟩
    · rintro τ G7 ⟨⟨fs, f7, q7, x6, x7, x8, x9, x10, x11, x12, x13, x14, x15, rfl, _, _, _⟩, hT7, _⟩
      exact ⟨hT7, _, _, _, _, _, _, _, _, _, _, _, _, _, _, _, rfl⟩
  · rintro τ G1 ⟨hT1, _⟩
    exact fin G1
end
end K69
end

section
set_option Elab.async false
set_option linter.all false
set_option maxRecDepth 100000
set_option maxHeartbeats 4000000
/-! L3ga: the law's def where it is known that no text of a thing is under way (repr asks that): it runs at the caller's own place. -/
namespace L3
open PySem PySem.Spec PyProof.Rows L2

/-- a def at the caller's place -/
structure RunA (P : Program) (w : World) (K : PySem.W.Frag) (mg : Str → Option Value) (base : Heap) (k : Nat) (f : Addr) (fd : FuncData) (ps : List Str) (sp : Sp3) : Prop where
  run : ∀ (s : Shared) (H : Hp) (args : Args) (us : List Value) (vs : List V) (Q : VK), Room k callerA → Env0 P w K mg base callerA [] s H → BindsTo s fd args (ps.zip us) → Vals vs us → low K sp vs H Q E0 →
    codeAny (model P w) callerA (.call (.ref f) args) (CR CX0 [] P w H s Q E0) s
theorem runA_ok {P : Program} {w : World} {K : PySem.W.Frag} {mg : Str → Option Value} {base : Heap} {x qual : Str} {params : Arguments} {body : List Stmt} {scope : Scope} {dvs : List V} {kws : List (Str × V)} {f : Addr} {fd : FuncData} {N ps : List Str} {k : Nat} {sp : Sp3}
    (F : FunD K x qual params body scope dvs kws f fd) (S : FnScope N ps scope) (len : ∀ ds G Q, sp ds G Q → ds.length = ps.length)
    (hbody : ∀ (cdv : Value) (s : Shared) (H : Hp), Room k (callerA.deeper (envOfC qual scope s.heap.objs.size f cdv)) → (callerA.deeper (envOfC qual scope s.heap.objs.size f cdv)).guards = some [] →
      ∃ t, LB (cxOf CX0 P w K mg base N qual scope f cdv callerA [] s H E0).nox [] body t ∧ ∀ ds G Q, sp ds G Q → t { nx := fun _ G' => Q .non G', rt := Q } (start3 N ds) G) : RunA P w K mg base (k + 1) f fd ps sp := by
  obtain ⟨oc, od, dV, kV, doc, pm, an, cdv, ct, osl, rfl, lk, hcd, _, _⟩ := F.ex
  refine ⟨fun s H args us vs Q room e0 bnd rv hsp => ?_⟩
  have hlen : vs.length = ps.length := by
    obtain ⟨Fz, tv, ds, G, Q3, _, _, rs, h, _⟩ := hsp
    rw [rs.len]
    exact len ds G Q3 h
  have inK : K.In s.heap := e0.mod.kin.keeps fun b o e => (e0.bs b o e).1
  have nolim : s.heap.NoLimit := e0.mod.nolimit.keeps fun b o e => (e0.bs b o e).1
  have kinds : ∀ y ∈ ps.zip us, scope.names.lookup y.1 = some .local ∨ (scope.names.lookup y.1 = some .cell ∧ ((cellsFrom (s.heap.objs.size + 1) scope.names []).lookup y.1).isSome = true) := fun ⟨n, v⟩ hy =>
    (S.par n (List.of_mem_zip hy).1).elim .inl fun q => .inr ⟨q, PySem.W.cellsFrom_some _ _ _ (.inl q)⟩
  refine codeAny_call_function room.depth (inK _ _ lk) rfl S.co S.gen rfl (PySem.W.codeRec_of inK hcd) (bnd _ _ _ _ ?_)
  refine wpAny_newFunctionEnv_cells S.kind kinds fun env he s1 x => ?_
  subst he
  refine ⟨nolim.keeps x.toInCall.keep, codeAny_func ?_⟩
  obtain ⟨t, ht, hq⟩ := hbody cdv s H (room.deeper _) rfl
  obtain ⟨Fz, tv, ds, G, Q3, h1, h2, rs, h, kk⟩ := hsp
  have J := inv_start (CX := CX0) (f := f) (qual := qual) (cd := cdv) (E := E0) S room.hd e0 hlen rv x
  refine wpAny_mono (ht.nox.run [] s1 (L2.start N vs) H { nx := fun _ H' => Q .non H', rt := Q } J ⟨Fz, tv, start3 N ds, G, { nx := fun _ G' => Q3 .non G', rt := Q3 }, fun q hq => absurd hq (by simp), start_rel N h1 h2 rs, hq ds G Q3 h, ?_⟩) (fun fl s' hs => ?_) fun _ _ z => z
  · exact ⟨fun σ' τ' G' Fz' H' r q => kk .non H' Fz' .non G' r.hr (fun q' hq' => r.tmp q' hq') .non q, fun d G' v H' Fz' σ' τ' r q => kk v H' Fz' d G' r.hr (fun q' hq' => r.tmp q' (List.mem_cons_of_mem _ hq')) r.h1 q,
      fun _ _ _ _ _ _ q => q.elim, fun _ _ _ _ _ _ q => q.elim⟩
  · have fin : ∀ {σ' : L2.St} {H' : Hp} {v : V} {u : Value}, Inv (cxOf CX0 P w K mg base N qual scope f cdv callerA [] s H E0) [] σ' H' s' → RelV v u → Q v H' → CE [] P w H s Q u s' := fun {σ' H' v u} I r q => ⟨v, H', I.os, I.bare, I.base, I.hok, r, q⟩
    cases fl with
    | ret u => obtain ⟨v, σ', H', I, r, q⟩ := hs; exact fin I r q
    | next => obtain ⟨σ', H', I, q⟩ := hs; exact fin (v := V.non) (u := Value.none) I rfl q
    | brk => obtain ⟨_, _, _, q⟩ := hs; exact q.elim
    | cont => obtain ⟨_, _, _, q⟩ := hs; exact q.elim
/-- the tracked heap in which nothing but the script may stand -/
structure OneH (P : Program) (w : World) (K : PySem.W.Frag) (h : Heap) (a : Addr) (ns : List Int) (H : Hp) : Prop where
  only : Only H
  seq : SqL K H a (ns.map V.int)
  hok : HOk P w H h
  one : ∀ b u, H b = some u → b = a ∧ K.lookup a = none
theorem oneH_ex {P : Program} {w : World} {K : PySem.W.Frag} {h : Heap} {a : Addr} {ns : List Int} {vs : List Value} (inK : K.In h) (ha : h.get? a = some { cls := .type "list", data := .seq vs.toArray }) (hi : IntsAre vs ns) (hl : ns.length ≤ sizeLine) : ∃ H, OneH P w K h a ns H := by
  have rv := vals_ints hi
  cases e : K.lookup a with
  | some o =>
    have eo := (inK a o e).symm.trans ha
    cases eo
    exact ⟨fun _ => none, fun _ => .inl rfl, .inr ⟨_, vs.toArray, _, e, rfl, rfl, rfl, by rw [List.size_toArray, hi.length]; exact hl, by simpa using rv⟩, fun b u z => (nomatch z), fun b u z => (nomatch z)⟩
  | none =>
    let S : HO := .frz { cls := .type "list", data := .seq vs.toArray } (.lst (ns.map V.int))
    have at' : ∀ {b u}, (if b = a then some S else none) = some u → b = a ∧ u = S := fun {b u} z => by
      by_cases q : b = a
      · rw [if_pos q] at z; exact ⟨q, (Option.some.inj z).symm⟩
      · rw [if_neg q] at z; cases z
    refine ⟨fun b => if b = a then some S else none, fun b => ?_, .inl (.inr ⟨_, if_pos rfl⟩), fun b u z => ?_, fun b u z => ⟨(at' z).1, e⟩⟩
    · cases q : (if b = a then some S else none) with
      | none => exact .inl rfl
      | some u => exact .inr ⟨_, _, congrArg some (at' q).2⟩
    · obtain ⟨rfl, rfl⟩ := at' z
      exact ⟨ha, by rw [List.length_map]; exact hl, vs, _, rv, ha⟩
theorem OneH.env {P : Program} {w : World} {K : PySem.W.Frag} {mg mb : Str → Option Value} {s : Shared} {a : Addr} {ns : List Int} {vs : List Value} {H : Hp} (O : OneH P w K s.heap a ns H) (inK : K.In s.heap) (hmg : s.heap.Ns mainGlobals mg) (hmb : s.heap.Ns builtinsNs mb) (hbb : ∀ x : Str, x ≠ "__name__" → mb x = bootBuiltins x)
    (hlim : s.heap.NoLimit) (hg : s.gens = #[]) (ha : s.heap.get? a = some { cls := .type "list", data := .seq vs.toArray }) : Env0 P w K mg (hidT s.heap H) callerA [] s H ∧ K.In (hidT s.heap H) ∧ (hidT s.heap H).Ns mainGlobals mg := by
  have free : ∀ {b : Addr} {o : Obj}, s.heap.get? b = some o → (b = a → K.lookup a = none → False) → (hidT s.heap H).get? b = some o := fun {b o} e n => hidT_get e (by
    cases q : H b with
    | none => rfl
    | some u => exact (n (O.one b u q).1 (O.one b u q).2).elim)
  have ns' : ∀ {b : Addr} {m : Str → Option Value}, s.heap.Ns b m → (hidT s.heap H).Ns b m := fun {b m} ⟨o, es, ep, e, d, r⟩ => ⟨o, es, ep, free e (fun eb _ => by subst eb; rw [ha] at e; cases e; cases (show Data.seq vs.toArray _ = Data.dict es ep from d)), d, r⟩
  have k' : K.In (hidT s.heap H) := fun b o e => free (inK b o e) fun eb n => by subst eb; rw [n] at e; cases e
  obtain ⟨mc, l1, l2⟩ := hlim
  exact ⟨⟨rfl, ⟨k', ns' hmg, ⟨mb, ns' hmb, hbb⟩, ⟨mc, ns' l1, l2⟩⟩, fun b o e => of_hidT e, Nat.le_of_eq (hidT_size _ _), trivial, fun b hb => (nomatch (show b ∈ ([] : List Addr) from hb)), O.hok, .of_eq hg⟩, k', ns' hmg⟩
/-- a law whose def runs at the caller's place -/
theorem walkA {l : PySem.W.OpenLaw} {n k : Nat} {q : Program} {loose : List Str} {XP : (Str → Option Value) → Heap → Prop} {YP : World → Heap → Prop} {d : DefRec} {x : Str} (hn : l.most = some n) (hn2 : n ≤ sizeLine) (hdf : d.params.defaults = []) (room : Room k callerA)
    (F : ∀ (w : World) (mg : Str → Option Value) (fa : Addr) (h : Heap), YP w h → h.Ns mainGlobals mg → mg d.name = some (.ref fa) → ∃ (K : PySem.W.Frag) (fd : FuncData) (sp : Sp3), K.In h ∧ (∀ (s : Shared) (u : Value), BindsTo s fd ⟨[u], []⟩ [(x, u)]) ∧
      (∀ (H : Hp) (a : Addr) (ns : List Int), Only H → SqL K H a (ns.map V.int) → low K sp [.ref a] H (fun v _ => v = .bl true) E0) ∧ ∀ base : Heap, K.In base → base.Ns mainGlobals mg → RunA l.prog w K mg base k fa fd [x] sp) :
    PySem.W.WalkO q loose XP YP l.row.toRowW d [] (fun f vs => PySem.call f vs) := by
  refine Att.attach_call hn hdf fun w _ s mg mb fa _ _ _ _ a vs ns G Y _ _ _ hmg hobj hints hlen hgens => ?_
  obtain ⟨K, fd, sp, inK, hbind, hsp, hF⟩ := F w mg fa _ Y G.T.g hmg
  obtain ⟨H, O⟩ := oneH_ex (P := l.prog) (w := w) inK hobj hints (Nat.le_trans hlen hn2)
  obtain ⟨e0, kb, nb⟩ := O.env inK G.T.g G.T.b G.T.builtins G.T.nolimit hgens hobj
  refine codeAny_mono ((hF _ kb nb).run s H ⟨[.ref a], []⟩ [.ref a] [.ref a] _ room e0 (hbind s _) (.cons rfl .nil) (hsp H a ns O.only O.seq)) fun r s' h => ?_
  cases r with
  | error e => exact False.elim h
  | ok fl => cases fl with
    | ret u =>
      obtain ⟨v, H', os, bare, un, hok', rv, rfl⟩ := h
      cases (show u = Value.bool true from rv)
      refine ⟨rfl, OldK.of_keep fun b o e => ?_, os, bare⟩
      cases q : H b with
      | none => exact un.keep b o e q (fun z => nomatch (show b ∈ ([] : List Addr) from z)) (by simp)
      | some u =>
        rcases O.only b with z | ⟨ob, xs, z⟩
        · rw [q] at z; cases z
        · have e1 := (O.hok b _ z).1
          rw [e] at e1; cases e1
          exact (hok' b _ (un.frzs b _ _ z)).1
    | next => exact False.elim h
    | brk => exact False.elim h
    | cont => exact False.elim h
end L3
end

section
set_option Elab.async false
set_option linter.all false
set_option maxRecDepth 100000
set_option maxHeartbeats 4000000
/-! L3gt: the law's def at the caller's place, where it makes lambdas: one table of code objects. -/
namespace L3
open PySem PySem.Spec PyProof.Rows L2 LamX
/-- runA_ok, its code object known -/
theorem runT_ok {P : Program} {w : World} {K : PySem.W.Frag} {mg : Str → Option Value} {base : Heap} {x qual : Str} {params : Arguments} {body : List Stmt} {scope : Scope} {dvs : List V} {kws : List (Str × V)} {f c : Addr} {fd : FuncData} {N ps : List Str} {k : Nat} {sp : Sp3}
    (F : FunD K x qual params body scope dvs kws f fd) (hc : fd.code = .ref c) (S : FnScope N ps scope) (len : ∀ ds G Q, sp ds G Q → ds.length = ps.length)
    (hbody : ∀ (s : Shared) (H : Hp), Room k (callerA.deeper (envOfC qual scope s.heap.objs.size f (.ref c))) → (callerA.deeper (envOfC qual scope s.heap.objs.size f (.ref c))).guards = some [] →
      ∃ t, LB (cxOf CX0 P w K mg base N qual scope f (.ref c) callerA [] s H E0).nox [] body t ∧ ∀ ds G Q, sp ds G Q → t { nx := fun _ G' => Q .non G', rt := Q } (start3 N ds) G) : RunA P w K mg base (k + 1) f fd ps sp := by
  obtain ⟨oc, od, dV, kV, doc, pm, an, cdv, ct, osl, rfl, lk, hcd, hD, hK⟩ := F.ex
  obtain rfl : cdv = .ref c := hc
  refine ⟨fun s H args us vs Q room e0 bnd rv hsp => ?_⟩
  have hlen : vs.length = ps.length := by
    obtain ⟨Fz, tv, ds, G, Q3, _, _, rs, h, _⟩ := hsp
    rw [rs.len]
    exact len ds G Q3 h
  have inK : K.In s.heap := e0.mod.kin.keeps fun b o e => (e0.bs b o e).1
  have nolim : s.heap.NoLimit := e0.mod.nolimit.keeps fun b o e => (e0.bs b o e).1
  have kinds : ∀ y ∈ ps.zip us, scope.names.lookup y.1 = some .local ∨ (scope.names.lookup y.1 = some .cell ∧ ((cellsFrom (s.heap.objs.size + 1) scope.names []).lookup y.1).isSome = true) := fun ⟨n, v⟩ hy =>
    (S.par n (List.of_mem_zip hy).1).elim .inl fun q => .inr ⟨q, PySem.W.cellsFrom_some _ _ _ (.inl q)⟩
  refine codeAny_call_function room.depth (inK _ _ lk) rfl S.co S.gen rfl (PySem.W.codeRec_of inK hcd) (bnd _ _ _ _ ?_)
  refine wpAny_newFunctionEnv_cells S.kind kinds fun env he s1 x => ?_
  subst he
  refine ⟨nolim.keeps x.toInCall.keep, codeAny_func ?_⟩
  obtain ⟨t, ht, hq⟩ := hbody s H (room.deeper _) rfl
  obtain ⟨Fz, tv, ds, G, Q3, h1, h2, rs, h, kk⟩ := hsp
  have J := inv_start (CX := CX0) (f := f) (qual := qual) (cd := .ref c) (E := E0) S room.hd e0 hlen rv x
  refine wpAny_mono (ht.nox.run [] s1 (L2.start N vs) H { nx := fun _ H' => Q .non H', rt := Q } J ⟨Fz, tv, start3 N ds, G, { nx := fun _ G' => Q3 .non G', rt := Q3 }, fun q hq => absurd hq (by simp), start_rel N h1 h2 rs, hq ds G Q3 h, ?_⟩) (fun fl s' hs => ?_) fun _ _ z => z
  · exact ⟨fun σ' τ' G' Fz' H' r q => kk .non H' Fz' .non G' r.hr (fun q' hq' => r.tmp q' hq') .non q, fun d G' v H' Fz' σ' τ' r q => kk v H' Fz' d G' r.hr (fun q' hq' => r.tmp q' (List.mem_cons_of_mem _ hq')) r.h1 q,
      fun _ _ _ _ _ _ q => q.elim, fun _ _ _ _ _ _ q => q.elim⟩
  · have fin : ∀ {σ' : L2.St} {H' : Hp} {v : V} {u : Value}, Inv (cxOf CX0 P w K mg base N qual scope f (.ref c) callerA [] s H E0) [] σ' H' s' → RelV v u → Q v H' → CE [] P w H s Q u s' := fun {σ' H' v u} I r q => ⟨v, H', I.os, I.bare, I.base, I.hok, r, q⟩
    cases fl with
    | ret u => obtain ⟨v, σ', H', I, r, q⟩ := hs; exact fin I r q
    | next => obtain ⟨σ', H', I, q⟩ := hs; exact fin (v := V.non) (u := Value.none) I rfl q
    | brk => obtain ⟨_, _, _, q⟩ := hs; exact q.elim
    | cont => obtain ⟨_, _, _, q⟩ := hs; exact q.elim
/-- an object that is no list and no table -/
def Else (o : Obj) : Prop := (∀ vs n, o.data ≠ .seq vs n) ∧ o.data ≠ .fields #[]
/-- in the tracked heap stand the script, if it is new, and the table at t -/
structure OneT (P : Program) (w : World) (K : PySem.W.Frag) (h : Heap) (a t : Addr) (ns : List Int) (H : Hp) : Prop where
  seq : SqL K H a (ns.map V.int)
  tbl : H t = some (.tbl #[])
  hok : HOk P w H h
  one : ∀ b u, H b = some u → (b = a ∧ K.lookup a = none ∧ ∃ o xs, u = .frz o (.lst xs)) ∨ b = t
theorem oneT_ex {P : Program} {w : World} {K : PySem.W.Frag} {h : Heap} {a t : Addr} {ns : List Int} {vs : List Value} (inK : K.In h) (ha : h.get? a = some { cls := .type "list", data := .seq vs.toArray }) (ht : h.get? t = some { cls := .none, data := .fields #[] }) (hi : IntsAre vs ns) (hl : ns.length ≤ sizeLine) : ∃ H, OneT P w K h a t ns H := by
  have nat : a ≠ t := fun e => by
    rw [e, ht] at ha
    have q : Data.fields #[] = Data.seq vs.toArray _ := congrArg Obj.data (Option.some.inj ha)
    cases q
  obtain ⟨H0, O⟩ := oneH_ex (P := P) (w := w) inK ha hi hl
  have at0 : H0 t = none := by
    cases q : H0 t with
    | none => rfl
    | some u => exact absurd (O.one t u q).1 (Ne.symm nat)
  let H1 : Hp := fun b => if b = t then some (.tbl #[]) else H0 b
  have same : ∀ {b}, b ≠ t → H1 b = H0 b := fun {b} n => if_neg n
  have here : H1 t = some (.tbl #[]) := if_pos rfl
  refine ⟨H1, ?_, here, fun b u z => ?_, fun b u z => ?_⟩
  · rcases O.seq with (e | ⟨o, e⟩) | e
    · exact .inl (.inl ((same nat).trans e))
    · exact .inl (.inr ⟨o, (same nat).trans e⟩)
    · exact .inr e
  · by_cases e : b = t
    · subst e
      rw [here] at z
      cases z
      exact ht
    · rw [same e] at z
      have := O.hok b u z
      rcases O.only b with q | ⟨o, xs, q⟩
      · rw [q] at z; cases z
      · rw [q] at z; cases z
        exact this
  · by_cases e : b = t
    · exact .inr e
    · rw [same e] at z
      refine .inl ⟨(O.one b u z).1, (O.one b u z).2, ?_⟩
      rcases O.only b with q | ⟨o, xs, q⟩
      · rw [q] at z; cases z
      · rw [q] at z; cases z; exact ⟨_, _, rfl⟩
theorem OneT.env {P : Program} {w : World} {K : PySem.W.Frag} {mg mb : Str → Option Value} {s : Shared} {a t c : Addr} {ns : List Int} {vs : List Value} {H : Hp} (O : OneT P w K s.heap a t ns H) (inK : K.In s.heap) (nT : K.lookup t = none) (hcode : PySem.W.codeHdIn K c t = true) (hmg : s.heap.Ns mainGlobals mg) (hmb : s.heap.Ns builtinsNs mb) (hbb : ∀ x : Str, x ≠ "__name__" → mb x = bootBuiltins x)
    (hbm : ∃ (bm : Addr) (ob : Obj), mg "__builtins__" = some (.ref bm) ∧ bm ≠ builtinsNs ∧ s.heap.get? bm = some ob ∧ ob.cls = .type "module" ∧ ob.dict = some builtinsNs ∧ ob.data = .plain)
    (hlim : s.heap.NoLimit) (hg : s.gens = #[]) (ha : s.heap.get? a = some { cls := .type "list", data := .seq vs.toArray }) (ht : s.heap.get? t = some { cls := .none, data := .fields #[] }) : Env0 P w K mg (hidT s.heap H) callerA [] s H ∧ K.In (hidT s.heap H) ∧ (hidT s.heap H).Ns mainGlobals mg ∧ TabB (hidT s.heap H) mg c t := by
  have free : ∀ {b : Addr} {o : Obj}, s.heap.get? b = some o → (b = a → K.lookup a = none → False) → b ≠ t → (hidT s.heap H).get? b = some o := fun {b o} e n1 n2 => hidT_get e (by
    cases q : H b with
    | none => rfl
    | some u =>
      rcases O.one b u q with ⟨e1, e2, _⟩ | e1
      · exact (n1 e1 e2).elim
      · exact absurd e1 n2)
  have other : ∀ {b : Addr} {o : Obj}, s.heap.get? b = some o → Else o → (hidT s.heap H).get? b = some o := fun {b o} e n => free e (fun eb _ => by
    subst eb; rw [ha] at e; cases e; exact n.1 _ _ rfl) fun eb => by
    subst eb; rw [ht] at e; cases e; exact n.2 rfl
  have ns' : ∀ {b : Addr} {m : Str → Option Value}, s.heap.Ns b m → (hidT s.heap H).Ns b m := fun {b m} ⟨o, es, ep, e, d, r⟩ => ⟨o, es, ep, other e ⟨fun vs n z => (by rw [d] at z; cases z), fun z => (by rw [d] at z; cases z)⟩, d, r⟩
  have k' : K.In (hidT s.heap H) := fun b o e => free (inK b o e) (fun eb n => by subst eb; rw [n] at e; cases e) fun eb => by subst eb; rw [nT] at e; cases e
  obtain ⟨mc, l1, l2⟩ := hlim
  refine ⟨⟨rfl, ⟨k', ns' hmg, ⟨mb, ns' hmb, hbb⟩, ⟨mc, ns' l1, l2⟩⟩, fun b o e => of_hidT e, Nat.le_of_eq (hidT_size _ _), trivial, fun b hb => (nomatch (show b ∈ ([] : List Addr) from hb)), O.hok, .of_eq hg⟩, k', ns' hmg, PySem.W.codeHd_of_K k' hcode, ?_, fun z => ?_⟩
  · obtain ⟨bm, ob, b1, b2, b3, b4, b5, b6⟩ := hbm
    refine ⟨bm, ob, b1, b2, fun q => ?_, fun q => ?_, other b3 ⟨fun vs n z => (by rw [b6] at z; cases z), fun z => (by rw [b6] at z; cases z)⟩, b4, b5, b6⟩
    · obtain ⟨o, es, ep, e, hd, _⟩ := hmg
      rw [q, e] at b3
      cases b3
      rw [hd] at b6
      cases b6
    · rw [q, ht] at b3
      cases b3
      cases b6
  · obtain ⟨o, es, ep, e, hd, _⟩ := hmg
    rw [z, ht] at e
    cases e
    cases hd
/-- a law whose def runs at the caller's place and makes lambdas -/
theorem walkT {l : PySem.W.OpenLaw} {n k : Nat} {q : Program} {loose : List Str} {XP : (Str → Option Value) → Heap → Prop} {YP : World → Heap → Prop} {d : DefRec} {x : Str} (hn : l.most = some n) (hn2 : n ≤ sizeLine) (hdf : d.params.defaults = []) (room : Room k callerA)
    (F : ∀ (w : World) (mg : Str → Option Value) (fa : Addr) (h : Heap), YP w h → h.Ns mainGlobals mg → mg d.name = some (.ref fa) → ∃ (K : PySem.W.Frag) (fd : FuncData) (sp : Sp3) (c t : Addr), K.In h ∧ h.get? t = some { cls := .none, data := .fields #[] } ∧ K.lookup t = none ∧ PySem.W.codeHdIn K c t = true ∧ (∀ (s : Shared) (u : Value), BindsTo s fd ⟨[u], []⟩ [(x, u)]) ∧
      (∀ (H : Hp) (a : Addr) (ns : List Int), H t = some (.tbl #[]) → SqL K H a (ns.map V.int) → low K sp [.ref a] H (fun v _ => v = .bl true) E0) ∧ ∀ base : Heap, K.In base → base.Ns mainGlobals mg → TabB base mg c t → RunA l.prog w K mg base k fa fd [x] sp) :
    PySem.W.WalkO q loose XP YP l.row.toRowW d [] (fun f vs => PySem.call f vs) := by
  refine Att.attach_call hn hdf fun w _ s mg mb fa _ _ _ _ a vs ns G Y _ _ _ hmg hobj hints hlen hgens => ?_
  obtain ⟨K, fd, sp, c, t, inK, ht, nT, hcode, hbind, hsp, hF⟩ := F w mg fa _ Y G.T.g hmg
  obtain ⟨H, O⟩ := oneT_ex (P := l.prog) (w := w) inK hobj ht hints (Nat.le_trans hlen hn2)
  obtain ⟨e0, kb, nb, TB⟩ := O.env inK nT hcode G.T.g G.T.b G.T.builtins G.T.bmain G.T.nolimit hgens hobj ht
  have CH : PySem.W.CodeHd s.heap c t := PySem.W.codeHd_of_K inK hcode
  refine codeAny_mono ((hF _ kb nb TB).run s H ⟨[.ref a], []⟩ [.ref a] [.ref a] _ room e0 (hbind s _) (.cons rfl .nil) (hsp H a ns O.tbl O.seq)) fun r s' h => ?_
  cases r with
  | error e => exact False.elim h
  | ok fl => cases fl with
    | ret u =>
      obtain ⟨v, H', os, bare, un, hok', rv, rfl⟩ := h
      cases (show u = Value.bool true from rv)
      have stay : ∀ b o, b ≠ t → s.heap.get? b = some o → s'.heap.get? b = some o := fun b o nb e => by
        cases q : H b with
        | none => exact un.keep b o e q (fun z => nomatch (show b ∈ ([] : List Addr) from z)) (by simp)
        | some u =>
          rcases O.one b u q with ⟨_, _, ob, xs, z⟩ | z
          · subst z
            have e1 := (O.hok b _ q).1
            rw [e] at e1; cases e1
            exact (hok' b _ (un.frzs b _ _ q)).1
          · exact absurd z nb
      obtain ⟨more, grown⟩ : ∃ more : Array Value, s'.heap.get? t = some { cls := .none, data := .fields more } := by
        obtain ⟨more, z⟩ := un.tbls t #[] O.tbl
        exact ⟨_, hok' t _ z⟩
      refine ⟨rfl, ⟨fun b o e => ?_, fun b o e => ?_⟩, os, bare⟩
      · by_cases hb : b = t
        · subst hb
          rw [ht] at e
          cases e
          exact .inr (.inl ⟨(CH.tab ht).isCodeTable, rfl, #[], more, rfl, by rw [Array.empty_append]; exact grown⟩)
        · exact .inl (stay b o hb e)
      · by_cases hb : b = t
        · subst hb
          exact ⟨_, grown⟩
        · exact ⟨o, stay b o hb e⟩
    | next => exact False.elim h
    | brk => exact False.elim h
    | cont => exact False.elim h
end L3
end

section
set_option Elab.async false
set_option linter.all false
set_option maxRecDepth 100000
set_option maxHeartbeats 1000000
namespace K69
open PySem PySem.Spec PyProof.Rows L2 L3 PP PT SX LamX
/-! ### what the head says of NoDeed -/
structure TOk (K : PySem.W.Frag) : Prop where
  T : XiC K (He.ga K "NoDeed") "ValueError" "ValueError.__new__" "ValueError.__init__" bmVE
  xf : XfC K (He.ga K "NoDeed")
  tI : PySem.W.typeIn K (.ref (He.ma K (He.ga K "NoDeed") "__init__")) = some (.type "function")
  iC : PySem.W.findIn K (.ref (He.ga K "NoDeed")) "__init__" = some (some (.ref (He.ma K (He.ga K "NoDeed") "__init__")))
  no : PySem.W.findIn K (.ref (He.ga K "NoDeed")) "at" = some none
  exc : ExcC K (He.ga K "NoDeed")
  own_ : ∀ x ∈ own16, PySem.W.kitOne K (.ref (He.ga K "NoDeed")) (.ref (He.ga K x)) = some (isaH x)
  blt_ : ∀ x ∈ blt5, PySem.W.kitOne K (.ref (He.ga K "NoDeed")) (.type x) = some (isaH (Str.ofString x))
  bw : BaseW K (He.ga K "Wrong") "ValueError.__init__"
  ex : HowE K (He.ga K "NoDeed") (He.ga K "NoFile") (He.ga K "Torn")
  tup : TupK K (kwdAt ("Disk", some "crash") "picks" K) []
theorem exT_ok {K : PySem.W.Frag} (h : exT K = true) : TOk K := by
  unfold exT at h
  obtain ⟨h1, h⟩ := He.ba h
  obtain ⟨h2, h⟩ := He.ba h
  obtain ⟨h3, h⟩ := He.ba h
  obtain ⟨h4, h⟩ := He.ba h
  obtain ⟨h5, h⟩ := He.ba h
  obtain ⟨h6, h⟩ := He.ba h
  obtain ⟨h7, h8⟩ := He.ba h
  unfold ownxB at h1
  obtain ⟨a1, h1⟩ := He.ba h1
  obtain ⟨a2, h1⟩ := He.ba h1
  obtain ⟨a3, h1⟩ := He.ba h1
  obtain ⟨a4, h1⟩ := He.ba h1
  obtain ⟨a5, h1⟩ := He.ba h1
  obtain ⟨a6, h1⟩ := He.ba h1
  obtain ⟨a7, a8⟩ := He.ba h1
  unfold L2.xfB at h2
  obtain ⟨x1, h2⟩ := He.ba h2
  obtain ⟨x2, h2⟩ := He.ba h2
  obtain ⟨x3, x4⟩ := He.ba h2
  unfold excCB at h3
  obtain ⟨b4, h3⟩ := He.ba h3
  obtain ⟨b5, h3⟩ := He.ba h3
  obtain ⟨b6, b7⟩ := He.ba h3
  unfold kitsB at h4
  obtain ⟨c1, c2⟩ := He.ba h4
  have x1 := of_decide_eq_true x1
  have x2 := of_decide_eq_true x2
  have x3 := of_decide_eq_true x3
  exact ⟨⟨PySem.F.excBase_ValueError, PySem.F.store_ValueError, a1, a2, x4, of_decide_eq_true a3, x3, of_decide_eq_true a4, a5⟩, ⟨x1, x2, x3, x4⟩, of_decide_eq_true a6, of_decide_eq_true a7, of_decide_eq_true a8,
    ⟨x1, x2, x3, x4, of_decide_eq_true b4, of_decide_eq_true b5, of_decide_eq_true b6, of_decide_eq_true b7⟩,
    fun x hx => of_decide_eq_true (List.all_eq_true.mp c1 x hx), fun x hx => of_decide_eq_true (List.all_eq_true.mp c2 x hx), baseWB_ok h5, ⟨of_decide_eq_true h6, of_decide_eq_true h7⟩, tup0_ok h8⟩
theorem TOk.exk {K : PySem.W.Frag} (q : TOk K) {mg : Str → Option Value} (h1 : ∀ x ∈ own16, mg x = some (.ref (He.ga K x))) (h2 : ∀ x ∈ (["RuntimeError", "OverflowError", "KeyError", "LookupError", "ValueError"] : List Str), mg x = none) : ExK K mg (He.ga K "NoDeed") isaN own16 ["RuntimeError", "OverflowError", "KeyError", "LookupError", "ValueError"] where
  exc := q.exc
  own := fun x hx => ⟨_, h1 x hx, q.own_ x hx⟩
  blt := fun x hx => by
    refine ⟨h2 x hx, ?_⟩
    simp only [List.mem_cons, List.not_mem_nil, or_false] at hx
    rcases hx with rfl | rfl | rfl | rfl | rfl
    · exact ⟨"RuntimeError", by decide +kernel, q.blt_ "RuntimeError" (by decide)⟩
    · exact ⟨"OverflowError", by decide +kernel, q.blt_ "OverflowError" (by decide)⟩
    · exact ⟨"KeyError", by decide +kernel, q.blt_ "KeyError" (by decide)⟩
    · exact ⟨"LookupError", by decide +kernel, q.blt_ "LookupError" (by decide)⟩
    · exact ⟨"ValueError", by decide +kernel, q.blt_ "ValueError" (by decide)⟩
section
variable {P : Program} {w : World} {K : PySem.W.Frag} {mg : Str → Option Value} {base : Heap}
theorem cal_fn {y x qual : Str} {params : Arguments} {body : List Stmt} {scope : Scope} {f : Addr} {N ps : List Str} {k : Nat} {sp : Sp3} (g : mg y = some (.ref f)) (F : ∃ fd, FunD K x qual params body scope [] [] f fd) (S : FnScope N ps scope)
    (hb : ∀ fd, FunD K x qual params body scope [] [] f fd → L2.Binds K fd ps []) (len : ∀ ds G Q, sp ds G Q → ds.length = ps.length)
    (hbody : ∀ (cdv : Value) (A : Around) (outer : List Env) (s : Shared) (H : Hp) (E : XK), Room k (A.deeper (envOfC qual scope s.heap.objs.size f cdv)) →
      ∃ t, LB (cxOf CX0 P w K mg base N qual scope f cdv A outer s H E).nox [] body t ∧ ∀ ds G Q, sp ds G Q → t { nx := fun _ G' => Q .non G', rt := Q } (start3 N ds) G) : Cal P w K mg base y (k + 1) sp [] := by
  obtain ⟨fd, F⟩ := F
  exact ⟨_, fd, ps, [], [], g, F.kp, fnD_ok F S len hbody, hb fd F, .nil, fun _ _ => .nil⟩
theorem calM_fn {C : Addr} {m x qual : Str} {params : Arguments} {body : List Stmt} {scope : Scope} {f : Addr} {N ps : List Str} {k : Nat} {sp : Sp3} (cl : Cls K C) (hm : Meth K C m f) (F : ∃ fd, FunD K x qual params body scope [] [] f fd) (S : FnScope N ps scope)
    (hb : ∀ fd, FunD K x qual params body scope [] [] f fd → L2.Binds K fd ps []) (len : ∀ ds G Q, sp ds G Q → ds.length = ps.length)
    (hbody : ∀ (cdv : Value) (A : Around) (outer : List Env) (s : Shared) (H : Hp) (E : XK), Room k (A.deeper (envOfC qual scope s.heap.objs.size f cdv)) →
      ∃ t, LB (cxOf CX0 P w K mg base N qual scope f cdv A outer s H E).nox [] body t ∧ ∀ ds G Q, sp ds G Q → t { nx := fun _ G' => Q .non G', rt := Q } (start3 N ds) G) : CalM P w K mg base C m (k + 1) sp [] := by
  obtain ⟨fd, F⟩ := F
  exact ⟨cl, _, fd, ps, [], [], hm, fnD_ok F S len hbody, hb fd F, .nil, fun _ _ => .nil⟩
end
end K69
end

section
set_option Elab.async false
set_option linter.all false
set_option maxRecDepth 100000
set_option maxHeartbeats 1000000
namespace K69
open PySem PySem.Spec PyProof.Rows L2 L3 PP PT SX LamX
theorem code_law {K : PySem.W.Frag} {fd : FuncData} (F : FunD K d_law.name d_law.qual d_law.params d_law.body d_law.scope [] [] (He.fAd K ("law", none)) fd) : fd.code = .ref (He.cT K ("law", none)).1 := by
  obtain ⟨oc, od, dV, kV, doc, pm, an, cdv, ct, osl, rfl, lk, hcd, _, _⟩ := F.ex
  obtain ⟨cc, rfl⟩ := He.codeIn_ref hcd
  exact congrArg Value.ref (He.codeOf_eq lk rfl).symm
theorem facts {P : Program} {w : World} {K : PySem.W.Frag} {h h0 : Heap} {mg : Str → Option Value} {f : Addr} (X : K.In h) (Gn : h.Ns mainGlobals mg) (hfa : mg ("law" : Str) = some (.ref f)) (c : He.SaysX fa2 fn [] tf exT w h0 K) :
    ∃ fd : FuncData, (∀ (s : Shared) (v : Value), BindsTo s fd ⟨[v], []⟩ [("_law_script", v)]) ∧ ∀ base : Heap, TabB base mg (He.cT K ("law", none)).1 (He.cT K ("law", none)).2 → RunA P w K mg base 21 f fd ["_law_script"] (sp_law (He.cT K ("law", none)).2 (d_law.qual ++ ".<locals>." ++ "<lambda>")) := by
  have b : Bi mg := ⟨He.free_ok X Gn (c.t.d.fact 40 (f := .free "len") rfl), He.free_ok X Gn (c.t.d.fact 41 (f := .free "isinstance") rfl), He.free_ok X Gn (c.t.d.fact 42 (f := .free "all") rfl), He.free_ok X Gn (c.t.d.fact 0 (f := .free "any") rfl), He.free_ok X Gn (c.t.d.fact 43 (f := .free "range") rfl), He.free_ok X Gn (c.t.d.fact 44 (f := .free "abs") rfl), He.free_ok X Gn (c.t.d.fact 45 (f := .free "min") rfl), He.free_ok X Gn (c.t.d.fact 46 (f := .free "max") rfl), He.free_ok X Gn (c.t.d.fact 47 (f := .free "int") rfl), He.free_ok X Gn (c.t.d.fact 48 (f := .free "list") rfl), He.free_ok X Gn (c.t.d.fact 49 (f := .free "tuple") rfl), He.free_ok X Gn (c.t.d.fact 1 (f := .free "sum") rfl), He.free_ok X Gn (c.t.d.fact 50 (f := .free "enumerate") rfl), He.free_ok X Gn (c.t.d.fact 51 (f := .free "zip") rfl), He.free_ok X Gn (c.t.d.fact 52 (f := .free "repr") rfl), He.free_ok X Gn (c.t.d.fact 53 (f := .free "str") rfl), He.free_ok X Gn (c.t.d.fact 54 (f := .free "bool") rfl), He.free_ok X Gn (c.t.d.fact 55 (f := .free "dict") rfl), He.free_ok X Gn (c.t.d.fact 2 (f := .free "ord") rfl), He.free_ok X Gn (c.t.d.fact 56 (f := .free "sorted") rfl)⟩
  have c_LONGEST : ∃ t, mg "LONGEST" = some (.int 12 t) := He.int_ok X Gn (c.t.d.fact 58 (f := .int "LONGEST" 12) rfl)
  have c_SIGNS : ∃ t, mg "SIGNS" = some (.str "abcdefghijklmnopqrstuvwxyz0123456789." t) := He.str_ok X Gn (c.t.d.fact 57 (f := .str "SIGNS" "abcdefghijklmnopqrstuvwxyz0123456789.") rfl)
  have q := exT_ok c.more
  have g_NoDeed := (He.glo_ok X Gn (c.t.d.fact 6 (f := .glo "NoDeed") rfl))
  have g_NoFile := (He.glo_ok X Gn (c.t.d.fact 7 (f := .glo "NoFile") rfl))
  have g_Torn := (He.glo_ok X Gn (c.t.d.fact 17 (f := .glo "Torn") rfl))
  have g_NoName := (He.glo_ok X Gn (c.t.d.fact 8 (f := .glo "NoName") rfl))
  have g_Wrong := (He.glo_ok X Gn (c.t.d.fact 18 (f := .glo "Wrong") rfl))
  have own_ : ∀ x ∈ own16, mg x = some (.ref (He.ga K x)) := fun x hx => by
    simp only [own16, List.mem_cons, List.not_mem_nil, or_false] at hx
    rcases hx with rfl | rfl | rfl | rfl | rfl | rfl | rfl | rfl | rfl | rfl | rfl | rfl | rfl | rfl | rfl | rfl
    · exact (He.glo_ok X Gn (c.t.d.fact 3 (f := .glo "Broken") rfl))
    · exact (He.glo_ok X Gn (c.t.d.fact 4 (f := .glo "Full") rfl))
    · exact (He.glo_ok X Gn (c.t.d.fact 5 (f := .glo "Gone") rfl))
    · exact (He.glo_ok X Gn (c.t.d.fact 6 (f := .glo "NoDeed") rfl))
    · exact (He.glo_ok X Gn (c.t.d.fact 7 (f := .glo "NoFile") rfl))
    · exact (He.glo_ok X Gn (c.t.d.fact 8 (f := .glo "NoName") rfl))
    · exact (He.glo_ok X Gn (c.t.d.fact 9 (f := .glo "NoNumber") rfl))
    · exact (He.glo_ok X Gn (c.t.d.fact 10 (f := .glo "NoPages") rfl))
    · exact (He.glo_ok X Gn (c.t.d.fact 11 (f := .glo "NoQuery") rfl))
    · exact (He.glo_ok X Gn (c.t.d.fact 12 (f := .glo "NoShelf") rfl))
    · exact (He.glo_ok X Gn (c.t.d.fact 13 (f := .glo "NoSize") rfl))
    · exact (He.glo_ok X Gn (c.t.d.fact 14 (f := .glo "NoSlot") rfl))
    · exact (He.glo_ok X Gn (c.t.d.fact 15 (f := .glo "NoText") rfl))
    · exact (He.glo_ok X Gn (c.t.d.fact 16 (f := .glo "Taken") rfl))
    · exact (He.glo_ok X Gn (c.t.d.fact 17 (f := .glo "Torn") rfl))
    · exact (He.glo_ok X Gn (c.t.d.fact 18 (f := .glo "Wrong") rfl))
  have blt_ : ∀ x ∈ (["RuntimeError", "OverflowError", "KeyError", "LookupError", "ValueError"] : List Str), mg x = none := fun x hx => by
    simp only [List.mem_cons, List.not_mem_nil, or_false] at hx
    rcases hx with rfl | rfl | rfl | rfl | rfl
    · exact He.free_ok X Gn (c.t.d.fact 19 (f := .free "RuntimeError") rfl)
    · exact He.free_ok X Gn (c.t.d.fact 20 (f := .free "OverflowError") rfl)
    · exact He.free_ok X Gn (c.t.d.fact 21 (f := .free "KeyError") rfl)
    · exact He.free_ok X Gn (c.t.d.fact 22 (f := .free "LookupError") rfl)
    · exact He.free_ok X Gn (c.t.d.fact 23 (f := .free "ValueError") rfl)
  have T := q.exk own_ blt_
  have n_KE : ∀ X : Cx, X.mg = mg → Gl X "KeyError" → Names X "KeyError" (.type "KeyError") := fun X em hg => ⟨hg, by decide, .inr ⟨by rw [em]; exact blt_ "KeyError" (by decide), by decide +kernel, by decide⟩⟩
  have dk : DkC K (He.ga K "Disk") := ⟨He.cls_ok (c.t.d.fact 60 (f := .cls "Disk") rfl), He.noat_ok (c.t.d.fact 62 (f := .noat "Disk" "files") rfl), He.noat_ok (c.t.d.fact 63 (f := .noat "Disk" "queue") rfl)⟩
  have C_is_name : ∀ base, Cal P w K mg base "is_name" (0 + 1) sp_name [] := fun base => cal_fn (He.glo_ok X Gn (c.t.d.fact 24 (f := .glo "is_name") rfl)) (c.t.d.def_ 1 (d := d_is_name) rfl) sc_is_name (fun fd F => F.bindsN fun _ _ _ _ _ _ us hl => match us, hl with | [_], _ => rfl) (fun ds G Q h => by obtain ⟨_, rfl, _⟩ := h; rfl) fun cdv A outer s H E hr => ⟨_, w_is_name hr b (c_LONGEST := c_LONGEST) (c_SIGNS := c_SIGNS) , fun ds G Q h => p_is_name ds G Q h⟩
  have C_most_pick : ∀ base, Cal P w K mg base "most_pick" (0 + 1) sp_most [] := fun base => cal_fn (He.glo_ok X Gn (c.t.d.fact 25 (f := .glo "most_pick") rfl)) (c.t.d.def_ 2 (d := d_most_pick) rfl) sc_most_pick (fun fd F => F.bindsN fun _ _ _ _ _ _ us hl => match us, hl with | [_], _ => rfl) (fun ds G Q h => by obtain ⟨_, rfl, _⟩ := h; rfl) fun cdv A outer s H E hr => ⟨_, w_most_pick hr b  , fun ds G Q h => p_most ds G Q h⟩
  have C_changed : ∀ base, Cal P w K mg base "changed" (0 + 1) sp_chg [] := fun base => cal_fn (He.glo_ok X Gn (c.t.d.fact 26 (f := .glo "changed") rfl)) (c.t.d.def_ 3 (d := d_changed) rfl) sc_changed (fun fd F => F.bindsN fun _ _ _ _ _ _ us hl => match us, hl with | [_, _, _], _ => rfl) (fun ds G Q h => by obtain ⟨_, _, _, _, rfl, _⟩ := h; rfl) fun cdv A outer s H E hr => ⟨_, w_changed hr b  , fun ds G Q h => p_changed ds G Q h⟩
  obtain ⟨fd_i, Fd_i⟩ := (c.t.d.def_ 4 (d := d_Disk___init__) rfl)
  have N_Disk : ∀ base, CalN P w K mg base "Disk" (He.ga K "Disk") (0 + 1) (sp_dinit (He.ga K "Disk")) [] := fun base => ⟨_, fd_i, ["self"], [], [], (He.glo_ok X Gn (c.t.d.fact 59 (f := .glo "Disk") rfl)), He.mkr_ok (c.t.d.fact 61 (f := .mkr "Disk") rfl), fnD_ok Fd_i sc_Disk___init__ (fun ds G Q h => by obtain ⟨_, rfl, _⟩ := h; rfl) (fun cdv A outer s H E hr => ⟨_, w_Disk___init__ hr b  , fun ds G Q h => p_dinit dk ds G Q h⟩), Fd_i.bindsN (fun _ _ _ _ _ _ us hl => match us, hl with | [_], _ => rfl), .nil, fun _ _ => .nil⟩
  have M_Disk_as_done : ∀ base, CalM P w K mg base (He.ga K "Disk") "as_done" (1 + 1) (sp_asd (He.ga K "Disk")) [] := fun base => calM_fn dk.cls (He.meth_ok (c.t.d.fact 67 (f := .meth "Disk" "as_done") rfl)) (c.t.d.def_ 7 (d := d_Disk_as_done) rfl) sc_Disk_as_done (fun fd F => F.bindsN fun _ _ _ _ _ _ us hl => match us, hl with | [_], _ => rfl) (fun ds G Q h => by obtain ⟨_, _, _, _, _, rfl, _⟩ := h; rfl) fun cdv A outer s H E hr => ⟨_, w_Disk_as_done hr b  (C_changed := C_changed base) (l_changed := by decide) (C_most_pick := C_most_pick base) (l_most_pick := by decide), fun ds G Q h => p_as_done dk ds G Q h⟩
  have M_Disk_write : ∀ base, CalM P w K mg base (He.ga K "Disk") "write" (1 + 1) (sp_write (He.ga K "Disk")) [] := fun base => calM_fn dk.cls (He.meth_ok (c.t.d.fact 68 (f := .meth "Disk" "write") rfl)) (c.t.d.def_ 8 (d := d_Disk_write) rfl) sc_Disk_write (fun fd F => F.bindsN fun _ _ _ _ _ _ us hl => match us, hl with | [_, _, _], _ => rfl) (fun ds G Q h => by obtain ⟨_, _, _, _, _, _, _, rfl, _⟩ := h; rfl) fun cdv A outer s H E hr => ⟨_, w_Disk_write hr b  (C_is_name := C_is_name base) (l_is_name := by decide), fun ds G Q h => p_write dk ds G Q h⟩
  have M_Disk_erase : ∀ base, CalM P w K mg base (He.ga K "Disk") "erase" (2 + 1) (sp_erase (He.ga K "Disk")) [] := fun base => calM_fn dk.cls (He.meth_ok (c.t.d.fact 69 (f := .meth "Disk" "erase") rfl)) (c.t.d.def_ 9 (d := d_Disk_erase) rfl) sc_Disk_erase (fun fd F => F.bindsN fun _ _ _ _ _ _ us hl => match us, hl with | [_, _], _ => rfl) (fun ds G Q h => by obtain ⟨_, _, _, _, _, _, rfl, _⟩ := h; rfl) fun cdv A outer s H E hr => ⟨_, w_Disk_erase hr b  (C_is_name := C_is_name base) (l_is_name := by decide) (M_Disk_as_done := M_Disk_as_done base) (l_Disk_as_done := by decide), fun ds G Q h => p_erase dk ds G Q h⟩
  have M_Disk_read : ∀ base, CalM P w K mg base (He.ga K "Disk") "read" (2 + 1) (sp_read (He.ga K "Disk")) [] := fun base => calM_fn dk.cls (He.meth_ok (c.t.d.fact 70 (f := .meth "Disk" "read") rfl)) (c.t.d.def_ 10 (d := d_Disk_read) rfl) sc_Disk_read (fun fd F => F.bindsN fun _ _ _ _ _ _ us hl => match us, hl with | [_, _], _ => rfl) (fun ds G Q h => by obtain ⟨_, _, _, _, _, _, _, rfl, _⟩ := h; rfl) fun cdv A outer s H E hr => ⟨_, w_Disk_read hr b  (n_KeyError := n_KE) (C_is_name := C_is_name base) (l_is_name := by decide) (M_Disk_as_done := M_Disk_as_done base) (l_Disk_as_done := by decide), fun ds G Q h => p_read dk ds G Q h⟩
  have M_Disk_names : ∀ base, CalM P w K mg base (He.ga K "Disk") "names" (2 + 1) (sp_names (He.ga K "Disk")) [] := fun base => calM_fn dk.cls (He.meth_ok (c.t.d.fact 71 (f := .meth "Disk" "names") rfl)) (c.t.d.def_ 11 (d := d_Disk_names) rfl) sc_Disk_names (fun fd F => F.bindsN fun _ _ _ _ _ _ us hl => match us, hl with | [_], _ => rfl) (fun ds G Q h => by obtain ⟨_, _, _, _, _, rfl, _⟩ := h; rfl) fun cdv A outer s H E hr => ⟨_, w_Disk_names hr b  (M_Disk_as_done := M_Disk_as_done base) (l_Disk_as_done := by decide), fun ds G Q h => p_names dk ds G Q h⟩
  have M_Disk_waiting : ∀ base, CalM P w K mg base (He.ga K "Disk") "waiting" (0 + 1) (sp_waitg (He.ga K "Disk")) [] := fun base => calM_fn dk.cls (He.meth_ok (c.t.d.fact 72 (f := .meth "Disk" "waiting") rfl)) (c.t.d.def_ 12 (d := d_Disk_waiting) rfl) sc_Disk_waiting (fun fd F => F.bindsN fun _ _ _ _ _ _ us hl => match us, hl with | [_], _ => rfl) (fun ds G Q h => by obtain ⟨_, _, _, _, _, rfl, _⟩ := h; rfl) fun cdv A outer s H E hr => ⟨_, w_Disk_waiting hr b  , fun ds G Q h => p_waitg dk ds G Q h⟩
  have M_Disk_flush : ∀ base, CalM P w K mg base (He.ga K "Disk") "flush" (2 + 1) (sp_flush (He.ga K "Disk")) [] := fun base => calM_fn dk.cls (He.meth_ok (c.t.d.fact 73 (f := .meth "Disk" "flush") rfl)) (c.t.d.def_ 13 (d := d_Disk_flush) rfl) sc_Disk_flush (fun fd F => F.bindsN fun _ _ _ _ _ _ us hl => match us, hl with | [_], _ => rfl) (fun ds G Q h => by obtain ⟨_, _, _, _, _, rfl, _⟩ := h; rfl) fun cdv A outer s H E hr => ⟨_, w_Disk_flush hr b  (M_Disk_as_done := M_Disk_as_done base) (l_Disk_as_done := by decide), fun ds G Q h => p_flush dk ds G Q h⟩
  have M_Disk_twin : ∀ base, CalM P w K mg base (He.ga K "Disk") "twin" (2 + 1) (sp_twin (He.ga K "Disk")) [] := fun base => calM_fn dk.cls (He.meth_ok (c.t.d.fact 66 (f := .meth "Disk" "twin") rfl)) (c.t.d.def_ 6 (d := d_Disk_twin) rfl) sc_Disk_twin (fun fd F => F.bindsN fun _ _ _ _ _ _ us hl => match us, hl with | [_], _ => rfl) (fun ds G Q h => by obtain ⟨_, _, _, _, _, rfl, _⟩ := h; rfl) fun cdv A outer s H E hr => ⟨_, w_Disk_twin hr b  (N_Disk := N_Disk base) (l_Disk := by decide), fun ds G Q h => p_twin dk ds G Q h⟩
  have M_Disk_look_picks : ∀ base, CalM P w K mg base (He.ga K "Disk") "look_picks" (1 + 1) (sp_look0 (He.ga K "Disk")) [] := fun base => calM_fn dk.cls (He.meth_ok (c.t.d.fact 74 (f := .meth "Disk" "look_picks") rfl)) (c.t.d.def_ 14 (d := d_Disk_look_picks) rfl) sc_Disk_look_picks (fun fd F => F.bindsN fun _ _ _ _ _ _ us hl => match us, hl with | [_, _], _ => rfl) (fun ds G Q h => by obtain ⟨_, _, _, _, _, rfl, _⟩ := h; rfl) fun cdv A outer s H E hr => ⟨_, w_Disk_look_picks hr b  (C_most_pick := C_most_pick base) (l_most_pick := by decide), fun ds G Q h => p_look0 ds G Q h⟩
  obtain ⟨fd_c, Fd_c⟩ := (c.t.d.def_ 15 (d := d_Disk_crash) rfl)
  have M_Disk_crash : ∀ base, CalM P w K mg base (He.ga K "Disk") "crash" (2 + 1) (sp_crash0 (He.ga K "Disk")) [.tup []] := fun base => by
    obtain ⟨ds, hv, hb⟩ := Fd_c.binds0 (ps := ["self", "picks"]) 1 (by simp [He.DefD.kws, d_Disk_crash]) rfl fun D doc pm an cdv ct us ks hu hk => match us, ks, hu, hk with | [_], [_], _, _ => ⟨_, _, _, _, _, _, rfl, rfl, rfl⟩
    exact ⟨dk.cls, _, fd_c, ["self", "picks"], _, ds, (He.meth_ok (c.t.d.fact 75 (f := .meth "Disk" "crash") rfl)), fnD_ok Fd_c sc_Disk_crash (fun ds G Q h => by obtain ⟨_, _, _, _, _, rfl, _⟩ := h; rfl) (fun cdv A outer s H E hr => ⟨_, w_Disk_crash hr b  (C_changed := C_changed base) (l_changed := by decide) (M_Disk_look_picks := M_Disk_look_picks base) (l_Disk_look_picks := by decide), fun ds G Q h => p_crash0 dk ds G Q h⟩), hb, hv, fun Fz H => .one (.tup _ [] [] (.inr q.tup) rfl (fun i v d h _ => by cases h))⟩
  obtain ⟨fT, FT⟩ := (c.t.d.def_ 0 (d := d_NoDeed___init__) rfl)
  have R : ∀ base, CalR P w K mg base "NoDeed" "at" (He.ga K "NoDeed") 1 := fun base => by
    obtain ⟨ds, hv, hb⟩ := FT.binds1 (ps := ["self", "at"]) 2 1 (by simp [He.DefD.dvs, d_NoDeed___init__]) rfl fun T kV doc pm an cdv ct us its hu hi => match us, its, hu, hi with | [_, _], [_], _, _ => ⟨_, rfl, rfl⟩
    have hds : ds = [] := by cases hv; rfl
    subst hds
    exact ⟨_, _, _, _, _, fT, _, q.T, q.iC, q.tI, xi_NoDeed FT q.T q.bw q.no g_Wrong, hb, g_NoDeed⟩
  obtain ⟨fd_l, Fd_l⟩ := (c.t.d.def_ 14 (d := d_Disk_look_picks) rfl)
  have ME : ∀ base, CalME P w K mg base (He.ga K "Disk") "look_picks" (2 + 1) (spe_look (He.ga K "Disk") (He.ga K "NoDeed")) [] := fun base => ⟨dk.cls, _, fd_l, ["self", "picks"], [], [], (He.meth_ok (c.t.d.fact 74 (f := .meth "Disk" "look_picks") rfl)), fnE_ok Fd_l sc_Disk_look_picks (fun ds G Q w h => by obtain ⟨_, _, _, _, _, _, rfl, _⟩ := h; rfl) (fun cdv A outer s H E B w3 hr tk => ⟨_, we_Disk_look_picks hr b tk (R base) (by decide) (C_most_pick base) (by decide), fun ds G Q h => p_look_e dk ds G Q w3 h⟩), Fd_l.bindsN (fun _ _ _ _ _ _ us hl => match us, hl with | [_, _], _ => rfl), .nil, fun _ _ => .nil⟩
  have MN : ∀ base, CalMN P w K mg base (He.ga K "Disk") "crash" (3 + 1) 1 ["picks"] (spe_crash (He.ga K "Disk") (He.ga K "NoDeed")) gApp := fun base => ⟨dk.cls, _, fd_c, ["self", "picks"], _, _, (He.meth_ok (c.t.d.fact 75 (f := .meth "Disk" "crash") rfl)), fnE_ok Fd_c sc_Disk_crash (fun ds G Q w h => by obtain ⟨_, _, _, _, _, _, rfl, _⟩ := h; rfl) (fun cdv A outer s H E B w3 hr tk => ⟨_, we_Disk_crash hr b tk (ME base) (by decide) (C_changed base) (by decide), fun ds G Q h => p_crash_e dk ds G Q w3 h⟩), kbn1 Fd_c (fun kV doc pm an cdv ct u w => rfl), fun r1 r2 => r1.append r2⟩
  have C__law_purse : ∀ base, Cal P w K mg base "_law_purse" (0 + 1) sp_purse [] := fun base => cal_fn (He.glo_ok X Gn (c.t.d.fact 27 (f := .glo "_law_purse") rfl)) (c.t.d.def_ 16 (d := d__law_purse) rfl) sc__law_purse (fun fd F => F.bindsN fun _ _ _ _ _ _ us hl => match us, hl with | [_, _], _ => rfl) (fun ds G Q h => by obtain ⟨_, _, _, _, rfl, _⟩ := h; rfl) fun cdv A outer s H E hr => ⟨_, w__law_purse hr b  , fun ds G Q h => p_purse ds G Q h⟩
  have C__law_take : ∀ base, Cal P w K mg base "_law_take" (0 + 1) sp_take [] := fun base => cal_fn (He.glo_ok X Gn (c.t.d.fact 28 (f := .glo "_law_take") rfl)) (c.t.d.def_ 17 (d := d__law_take) rfl) sc__law_take (fun fd F => F.bindsN fun _ _ _ _ _ _ us hl => match us, hl with | [_, _], _ => rfl) (fun ds G Q h => by obtain ⟨_, _, _, rfl, _⟩ := h; rfl) fun cdv A outer s H E hr => ⟨_, w__law_take hr b  , fun ds G Q h => p_take ds G Q h⟩
  have C__law_row : ∀ base, Cal P w K mg base "_law_row" (1 + 1) sp_row [] := fun base => cal_fn (He.glo_ok X Gn (c.t.d.fact 30 (f := .glo "_law_row") rfl)) (c.t.d.def_ 19 (d := d__law_row) rfl) sc__law_row (fun fd F => F.bindsN fun _ _ _ _ _ _ us hl => match us, hl with | [_, _], _ => rfl) (fun ds G Q h => by obtain ⟨_, _, _, rfl, _⟩ := h; rfl) fun cdv A outer s H E hr => ⟨_, w__law_row hr b  (C__law_take := C__law_take base) (l__law_take := by decide), fun ds G Q h => p_law_row ds G Q h⟩
  have C__law_full : ∀ base, Cal P w K mg base "_law_full" (0 + 1) sp_full [] := fun base => cal_fn (He.glo_ok X Gn (c.t.d.fact 32 (f := .glo "_law_full") rfl)) (c.t.d.def_ 21 (d := d__law_full) rfl) sc__law_full (fun fd F => F.bindsN fun _ _ _ _ _ _ us hl => match us, hl with | [_], _ => rfl) (fun ds G Q h => by obtain ⟨_, _, rfl, _⟩ := h; rfl) fun cdv A outer s H E hr => ⟨_, w__law_full hr b  , fun ds G Q h => p_full ds G Q h⟩
  have C__law_done : ∀ base, Cal P w K mg base "_law_done" (0 + 1) sp_ldone [] := fun base => cal_fn (He.glo_ok X Gn (c.t.d.fact 31 (f := .glo "_law_done") rfl)) (c.t.d.def_ 20 (d := d__law_done) rfl) sc__law_done (fun fd F => F.bindsN fun _ _ _ _ _ _ us hl => match us, hl with | [_, _, _], _ => rfl) (fun ds G Q h => by obtain ⟨_, _, _, _, _, rfl, _⟩ := h; rfl) fun cdv A outer s H E hr => ⟨_, w__law_done hr b  , fun ds G Q h => p_ldone ds G Q h⟩
  have C__law_seen : ∀ base, Cal P w K mg base "_law_seen" (1 + 1) sp_lseen [] := fun base => cal_fn (He.glo_ok X Gn (c.t.d.fact 33 (f := .glo "_law_seen") rfl)) (c.t.d.def_ 22 (d := d__law_seen) rfl) sc__law_seen (fun fd F => F.bindsN fun _ _ _ _ _ _ us hl => match us, hl with | [_, _], _ => rfl) (fun ds G Q h => by obtain ⟨_, _, _, _, rfl, _⟩ := h; rfl) fun cdv A outer s H E hr => ⟨_, w__law_seen hr b  (C__law_done := C__law_done base) (l__law_done := by decide) (C__law_full := C__law_full base) (l__law_full := by decide), fun ds G Q h => p_lseen ds G Q h⟩
  have C__law_waiting : ∀ base, Cal P w K mg base "_law_waiting" (3 + 1) (sp_lwait (He.ga K "Disk")) [] := fun base => cal_fn (He.glo_ok X Gn (c.t.d.fact 35 (f := .glo "_law_waiting") rfl)) (c.t.d.def_ 24 (d := d__law_waiting) rfl) sc__law_waiting (fun fd F => F.bindsN fun _ _ _ _ _ _ us hl => match us, hl with | [_, _, _, _], _ => rfl) (fun ds G Q h => by obtain ⟨_, _, _, _, _, _, _, _, rfl, _⟩ := h; rfl) fun cdv A outer s H E hr => ⟨_, w__law_waiting hr b  (C__law_take := C__law_take base) (l__law_take := by decide) (C__law_row := C__law_row base) (l__law_row := by decide) (C__law_seen := C__law_seen base) (l__law_seen := by decide) (M_Disk_erase := M_Disk_erase base) (l_Disk_erase := by decide) (M_Disk_write := M_Disk_write base) (l_Disk_write := by decide), fun ds G Q h => p_lwait dk ds G Q h⟩
  have C__law_picks : ∀ base, Cal P w K mg base "_law_picks" (1 + 1) sp_lpicks [] := fun base => cal_fn (He.glo_ok X Gn (c.t.d.fact 36 (f := .glo "_law_picks") rfl)) (c.t.d.def_ 25 (d := d__law_picks) rfl) sc__law_picks (fun fd F => F.bindsN fun _ _ _ _ _ _ us hl => match us, hl with | [_, _], _ => rfl) (fun ds G Q h => by obtain ⟨_, _, _, rfl, _⟩ := h; rfl) fun cdv A outer s H E hr => ⟨_, w__law_picks hr b  (C__law_full := C__law_full base) (l__law_full := by decide) (C__law_take := C__law_take base) (l__law_take := by decide), fun ds G Q h => p_lpicks ds G Q h⟩
  have C__law_wrong : ∀ base, Cal P w K mg base "_law_wrong" (1 + 1) sp_lwrong [] := fun base => cal_fn (He.glo_ok X Gn (c.t.d.fact 37 (f := .glo "_law_wrong") rfl)) (c.t.d.def_ 26 (d := d__law_wrong) rfl) sc__law_wrong (fun fd F => F.bindsN fun _ _ _ _ _ _ us hl => match us, hl with | [_, _], _ => rfl) (fun ds G Q h => by obtain ⟨_, _, _, rfl, _⟩ := h; rfl) fun cdv A outer s H E hr => ⟨_, w__law_wrong hr b  (C__law_full := C__law_full base) (l__law_full := by decide), fun ds G Q h => p_lwrong ds G Q h⟩
  have C__law_is_so : ∀ base, Cal P w K mg base "_law_is_so" (3 + 1) (sp_isso (He.ga K "Disk")) [] := fun base => cal_fn (He.glo_ok X Gn (c.t.d.fact 38 (f := .glo "_law_is_so") rfl)) (c.t.d.def_ 27 (d := d__law_is_so) rfl) sc__law_is_so (fun fd F => F.bindsN fun _ _ _ _ _ _ us hl => match us, hl with | [_, _, _], _ => rfl) (fun ds G Q h => by obtain ⟨_, _, _, _, _, rfl, _⟩ := h; rfl) fun cdv A outer s H E hr => ⟨_, w__law_is_so hr b  (M_Disk_waiting := M_Disk_waiting base) (l_Disk_waiting := by decide) (M_Disk_names := M_Disk_names base) (l_Disk_names := by decide) (M_Disk_read := M_Disk_read base) (l_Disk_read := by decide), fun ds G Q h => p_isso ds G Q h⟩
  obtain ⟨fk, Fk⟩ := (c.t.d.def_ 18 (d := d__law_kind) rfl)
  have CP : ∀ base, CalP P w K mg base "_law_kind" (0 + 1) (spp_kind (He.ga K "NoDeed")) := fun base =>
    ⟨_, fk, ["_law_e"], (He.glo_ok X Gn (c.t.d.fact 29 (f := .glo "_law_kind") rfl)), Fk.kp, fnP_ok Fk sc__law_kind (fun a C dx ds G Q h => by obtain ⟨_, _, rfl, _⟩ := h; rfl) (fun cdv A outer s H p C dx hot hr => by
      by_cases e : C = He.ga K "NoDeed"
      · subst e
        exact ⟨_, wh__law_kind (isa := isaN) hr b ⟨hot.hot, hot.zn, hot.fl⟩ T, fun ds G Q h => ph_law_kind _ _ _ ds G Q h⟩
      · exact ⟨sNever, lb_never, fun ds G Q h => absurd h.1 e⟩), Fk.bindsN fun _ _ _ _ _ _ us hl => match us, hl with | [_], _ => rfl⟩
  have CL : ∀ base, CalL P w K mg base "_law_how" "_law_deed" N__law_how (ttH K (He.ga K "NoName") (He.ga K "NoDeed") (He.ga K "NoFile") (He.ga K "Torn")) := fun base =>
    calL_of (c.t.d.def_ 23 (d := d__law_how) rfl) (He.glo_ok X Gn (c.t.d.fact 34 (f := .glo "_law_how") rfl)) (fun fd F => F.bindsN fun _ _ _ _ _ _ us hl => match us, hl with | [_], _ => rfl) sc__law_how rfl (Or.inl rfl) fun f c' s H deed B A outer cdg q' hr act =>
      wL__law_how hr b q.xf q.no act (fun X em _ hg => ⟨hg, by decide, .inl (by rw [em]; exact g_NoName)⟩) (fun X em _ hg => ⟨hg, by decide, .inl (by rw [em]; exact g_NoDeed)⟩) (fun X em _ hg => ⟨hg, by decide, .inl (by rw [em]; exact g_NoFile)⟩) (fun X em _ hg => ⟨hg, by decide, .inl (by rw [em]; exact g_Torn)⟩) (CP base) (by decide)
  obtain ⟨fl, Fl⟩ := (c.t.d.def_ 28 (d := d_law) rfl)
  have gl := (He.glo_ok X Gn (c.t.d.fact 39 (f := .glo "law") rfl))
  rw [hfa] at gl
  obtain rfl : f = He.fAd K ("law", none) := by cases gl; rfl
  refine ⟨fl, fun s v => Fl.bindsA (ps := ["_law_script"]) (fun _ _ _ _ _ _ us hl => match us, hl with | [_], _ => rfl) s [v] rfl, fun base TB => ?_⟩
  exact runT_ok (k := 20) Fl (code_law Fl) sc_law (fun ds G Q h => by obtain ⟨_, _, _, rfl, _⟩ := h; rfl) fun s H hr hgd => ⟨_, w_law (kb := 4) hr b (by decide) TB rfl rfl (CL base) (MN base) (by decide)  (C__law_purse := C__law_purse base) (l__law_purse := by decide) (C__law_waiting := C__law_waiting base) (l__law_waiting := by decide) (C__law_take := C__law_take base) (l__law_take := by decide) (C__law_seen := C__law_seen base) (l__law_seen := by decide) (C__law_picks := C__law_picks base) (l__law_picks := by decide) (C__law_wrong := C__law_wrong base) (l__law_wrong := by decide) (C__law_is_so := C__law_is_so base) (l__law_is_so := by decide) (C__law_done := C__law_done base) (l__law_done := by decide) (M_Disk_flush := M_Disk_flush base) (l_Disk_flush := by decide) (M_Disk_twin := M_Disk_twin base) (l_Disk_twin := by decide) (M_Disk_crash := M_Disk_crash base) (l_Disk_crash := by decide) (N_Disk := N_Disk base) (l_Disk := by decide) (hgd := hgd), fun ds G Q h => p_law q.ex ds G Q h⟩
end K69
end

section
set_option Elab.async false
set_option linter.all false
set_option maxRecDepth 100000
set_option maxHeartbeats 0
namespace K69
open PySem PySem.Spec PyProof.Rows L2
theorem run_false (w : World) : HandSHeadRun.RunEq R (PySem.W.view R.prog [37]) hk2 ob2 15000 names (w.withFollow "special-get-raises" false) := by
  intro os; kernel_rfl
theorem run_true (w : World) : HandSHeadRun.RunEq R (PySem.W.view R.prog [37]) hk2 ob2 15000 names (w.withFollow "special-get-raises" true) := by
  intro os; kernel_rfl
theorem run2 (w : World) : HandSHeadRun.RunEq R (PySem.W.view R.prog [37]) hk2 ob2 15000 names w :=
  PySem.W.byRow2 "special-get-raises" (P := fun w => HandSHeadRun.RunEq R (PySem.W.view R.prog [37]) hk2 ob2 15000 names w) run_false run_true w
end K69
end

section
set_option Elab.async false
set_option linter.all false
set_option maxRecDepth 100000
set_option maxHeartbeats 0
open PySem PySem.W PySem.Calls PyProof.Rows
namespace K69
open PT
theorem sp_law_ok {K : PySem.W.Frag} {H : L2.Hp} {a pT : Addr} {q : PySem.Str} {ns : List Int} (hS : L2.SqL K H a (ns.map L2.V.int)) (hT : H pT = some (.tbl #[])) : L3.low K (sp_law pT q) [.ref a] H (fun v _ => v = .bl true) fun _ _ _ => False := by
  have fin : ∀ (Fz : Addr → Prop) (d : L3.D), (∀ b, Fz b → b ≠ pT ∧ ∃ o, H b = some o) → L3.Rep K Fz H (.ref a) d → IsScr d ns → L3.low K (sp_law pT q) [.ref a] H (fun v _ => v = .bl true) fun _ _ _ => False := by
    intro Fz d hz r hs
    refine ⟨Fz, [], [d], fun b => if b = pT then some (.raw (.tbl #[])) else none, fun d _ => d = .bl true, ⟨fun b o e => ?_, fun b hb => (hz b hb).2⟩, fun p hp => (by cases hp), L3.Reps.one r, ⟨d, ns, hs, rfl, fun p hp => ?_, fun _ => rfl⟩, ?_⟩
    · by_cases hb : b = pT
      · have e' := (if_pos hb).symm.trans e
        cases e'
        exact ⟨fun z => (hz b z).1 hb, by rw [hb]; exact hT⟩
      · have e' := (if_neg hb).symm.trans e
        cases e'
    · rw [List.mem_singleton.mp hp]
      exact ⟨#[], if_pos rfl, by first | exact trivial | (intro x hx; cases hx) | simp [TriplesOk], fun pos cv h => by first | cases h | (simp [codeAmong] at h)⟩
    · intro v H' Fz' d' G' _ _ r' e
      subst e
      exact r'.inv_bl
  rcases hS with (h | ⟨o, h⟩) | h
  · refine fin (fun b => b = a) (.lst (ns.map .int)) (fun b e => ⟨fun z => ?_, _, e ▸ h⟩) (.lst a _ _ ⟨rfl, h⟩ (by simp) fun i v d h1 h2 => ?_) (.inr rfl)
    · rw [← e, z, hT] at h; cases h
    · rw [List.getElem?_map] at h1 h2
      cases e : ns[i]? with
      | none => rw [e] at h1; cases h1
      | some n => rw [e] at h1 h2; cases h1; cases h2; exact .int n
  · refine fin (fun b => b = a) (.scr ns) (fun b e => ⟨fun z => ?_, _, e ▸ h⟩) (.scr a ns (.inl ⟨o, rfl, h⟩)) (.inl rfl)
    rw [← e, z, hT] at h; cases h
  · exact fin (fun _ => False) (.scr ns) (fun b e => e.elim) (.scr a ns (.inr h)) (.inl rfl)
end K69
theorem PySem.Challenge.cw_blocksearch_k69_disks_crash_holds : PySem.Challenge.rw_blocksearch_k69_disks_crash.Holds := by
  w_on; o_law
  refine HandSHeadRun.head_any (r := OpenLaw.row PySem.Challenge.rw_blocksearch_k69_disks_crash) (q := view (OpenLaw.row PySem.Challenge.rw_blocksearch_k69_disks_crash).prog [37]) (H := K69.hk2) (ob := K69.ob2) (M := 15000) (loose := K69.names) (d := HandSHeadRun.topDef (OpenLaw.row PySem.Challenge.rw_blocksearch_k69_disks_crash).prog 37) (kwd := []) K69.ob2_eq
    (by kernel_rfl) (fun s => by kernel_rfl) K69.run2 (by kernel_rfl) (by kernel_rfl) (by kernel_rfl) (by rfl) (by first | assumption | decide +kernel) (by decide +kernel) ⟨rfl, rfl, rfl, rfl, rfl, by decide +kernel⟩ ?hw ?hc
  case hw => w_witness2
  case hc =>
    refine L3.walkT (l := PySem.Challenge.rw_blocksearch_k69_disks_crash) (n := 63) (k := 21) (x := "_law_script") rfl (by decide) (by kernel_rfl) ⟨rfl, by decide, by decide⟩ ?F
    intro w mg fa h Y G hmg0
    obtain ⟨K, KX, c⟩ := Y
    have hmg : mg ("law" : PySem.Str) = some (.ref fa) := by
      have e : (HandSHeadRun.topDef (OpenLaw.row PySem.Challenge.rw_blocksearch_k69_disks_crash).prog 37).name = ("law" : PySem.Str) := by kernel_rfl
      rw [← e]
      exact hmg0
    obtain ⟨fd, hb, hF⟩ := K69.facts (P := (PySem.Challenge.rw_blocksearch_k69_disks_crash).prog) (w := w) KX G hmg c
    exact ⟨K, fd, _, (He.cT K ("law", none)).1, (He.cT K ("law", none)).2, KX, c.empty _ (List.mem_singleton.mpr rfl), c.out _ (List.mem_singleton.mpr rfl), c.hd _ (List.mem_singleton.mpr rfl), hb, fun H a ns hT hS => K69.sp_law_ok hS hT, fun base _ _ TB => hF base TB⟩
end
