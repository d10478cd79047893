import PyProof.Rows.All
import Wide.All
import OpenK.AllK
import Wide.FinOn
import HandS.ForMost
import HandS.Wide
import HandS.IsInst
import HandS.TupLe
import HandS.SortInts
import HandS.TupAny
import HandS.Style
import HandS.Deep
import HandS.Zip
import HandS.Small
import HandS.More
import HandS.SortRule
import HandS.DictComp
import HandS.Conv
import HandS.Defaults
import KE.GoesEnum
import HandS.Iter
import KE.KDictCopyH
import KE.KOpsOwn
import KE.SortData
import HandS.Codes
import HandS.IterVal
import KE.KOwnIter
import KE.KExcSuper
import HandS.ExcInit
import HandS.Nested
import HandS.ExcOwn
import HandS.ExcIs
import HandS.ExcField
import HandS.WordsExc
import KE.KExcIs
import HandS.Text
import HandS.EndBits
import KE.KDictZip
import PyProof.ListNew
import PyProof.EqKinds
import PySem.Challenge.RW_oathcoin_k68_carriers
set_option Elab.async false
set_option linter.all false
set_option maxRecDepth 100000
set_option autoImplicit false
namespace DL
open PySem L2

/-- plain data -/
inductive D where
  | non | bl (b : Bool) | int (i : Int) | str (x : Str)
  | lst (ds : List D) | tup (ds : List D) | obj (C : Addr) (fs : List (Str × D)) | ref (a : Addr) | ty (n : String)
  | kt (k : List Key) | dK (kvs : List (Key × D)) | dT (kvs : List (List Key × D))
  | exc (a dx : Addr) (d : D)

mutual
inductive Dr (K : PySem.W.Frag) (B : Hp) : D → V → Prop
  | non : Dr K B .non .non
  | bl (b : Bool) : Dr K B (.bl b) (.bl b)
  | int (i : Int) : Dr K B (.int i) (.int i)
  | str (x : Str) : Dr K B (.str x) (.str x)
  | lst {a : Addr} {xs : List V} {ds : List D} : B a = some (.lst xs) → DrA K B ds xs → Dr K B (.lst ds) (.ref a)
  | tup {a : Addr} {xs : List V} {ds : List D} : SqT K B a xs → DrA K B ds xs → Dr K B (.tup ds) (.ref a)
  | obj {a C dx : Addr} {fs : List (Str × D)} {gs : List (Str × V)} : B a = some (.ins C dx gs) → DrF K B fs gs → Dr K B (.obj C fs) (.ref a)
  | ref (a : Addr) : Dr K B (.ref a) (.ref a)
  | ty (n : String) : Dr K B (.ty n) (.ty n)
  | kt {a : Addr} {k : List Key} : B a = some (.tup (k.map kV)) → Dr K B (.kt k) (.ref a)
  | dK {a : Addr} {o : Obj} {xs : List (Key × D)} {vs : List (Key × V)} : B a = some (.frz o (.dK vs)) → vs.map (·.1) = xs.map (·.1) → DrA K B (xs.map (·.2)) (vs.map (·.2)) → Dr K B (.dK xs) (.ref a)
  | dT {a : Addr} {o : Obj} {xs : List (List Key × D)} {vs : List (List Key × V)} : B a = some (.frz o (.dT vs)) → vs.map (·.1) = xs.map (·.1) → DrA K B (xs.map (·.2)) (vs.map (·.2)) → Dr K B (.dT xs) (.ref a)
  | exc {a dx : Addr} {v : V} {d : D} : B dx = some (.xd [("what", v)]) → Dr K B d v → Dr K B (.exc a dx d) (.ref a)
inductive DrA (K : PySem.W.Frag) (B : Hp) : List D → List V → Prop
  | nil : DrA K B [] []
  | cons {d : D} {v : V} {ds : List D} {vs : List V} : Dr K B d v → DrA K B ds vs → DrA K B (d :: ds) (v :: vs)
inductive DrF (K : PySem.W.Frag) (B : Hp) : List (Str × D) → List (Str × V) → Prop
  | nil : DrF K B [] []
  | cons {f : Str} {d : D} {v : V} {ds : List (Str × D)} {vs : List (Str × V)} : Dr K B d v → DrF K B ds vs → DrF K B ((f, d) :: ds) ((f, v) :: vs)
end
section
variable {K : PySem.W.Frag} {B B' : Hp}
theorem sameT {a : Addr} {xs : List V} (e : Same B B') (h : SqT K B a xs) : SqT K B' a xs := by
  rcases h with (h | ⟨o, h⟩) | h
  · exact .inl (.inl (e _ _ h))
  · exact .inl (.inr ⟨o, e _ _ h⟩)
  · exact .inr h
mutual
theorem Dr.mono (e : Same B B') : ∀ {d : D} {v : V}, Dr K B d v → Dr K B' d v
  | _, _, .non => .non
  | _, _, .bl b => .bl b
  | _, _, .int i => .int i
  | _, _, .str x => .str x
  | _, _, .lst h r => .lst (e _ _ h) (DrA.mono e r)
  | _, _, .tup h r => .tup (sameT e h) (DrA.mono e r)
  | _, _, .obj h r => .obj (e _ _ h) (DrF.mono e r)
  | _, _, .ref a => .ref a
  | _, _, .ty n => .ty n
  | _, _, .kt h => .kt (e _ _ h)
  | _, _, .dK h q r => .dK (e _ _ h) q (DrA.mono e r)
  | _, _, .dT h q r => .dT (e _ _ h) q (DrA.mono e r)
  | _, _, .exc h r => .exc (e _ _ h) (Dr.mono e r)
theorem DrA.mono (e : Same B B') : ∀ {ds : List D} {vs : List V}, DrA K B ds vs → DrA K B' ds vs
  | _, _, .nil => .nil
  | _, _, .cons h r => .cons (Dr.mono e h) (DrA.mono e r)
theorem DrF.mono (e : Same B B') : ∀ {ds : List (Str × D)} {vs : List (Str × V)}, DrF K B ds vs → DrF K B' ds vs
  | _, _, .nil => .nil
  | _, _, .cons h r => .cons (Dr.mono e h) (DrF.mono e r)
end
theorem DrA.len {ds : List D} {vs : List V} : DrA K B ds vs → ds.length = vs.length := by
  intro h
  induction ds generalizing vs with
  | nil => cases h; rfl
  | cons d r ih => cases h with | cons _ t => simp [ih t]
theorem DrA.get {ds : List D} {vs : List V} {i : Nat} {d : D} (h : DrA K B ds vs) (e : ds[i]? = some d) : ∃ v, vs[i]? = some v ∧ Dr K B d v := by
  induction ds generalizing vs i with
  | nil => simp at e
  | cons x r ih =>
    cases h with
    | cons h1 t =>
      cases i with
      | zero => simp at e; subst e; exact ⟨_, rfl, h1⟩
      | succ i => simp at e; obtain ⟨v, e1, e2⟩ := ih t e; exact ⟨v, by simpa using e1, e2⟩
theorem DrA.get' {ds : List D} {vs : List V} {i : Nat} {v : V} (h : DrA K B ds vs) (e : vs[i]? = some v) : ∃ d, ds[i]? = some d ∧ Dr K B d v := by
  have hl := h.len
  have : i < ds.length := by rw [hl]; exact (List.getElem?_eq_some_iff.mp e).1
  obtain ⟨w, e1, e2⟩ := h.get (List.getElem?_eq_getElem this)
  rw [e] at e1; cases e1
  exact ⟨_, List.getElem?_eq_getElem this, e2⟩
theorem DrA.append {ds es : List D} {vs ws : List V} (h : DrA K B ds vs) (h' : DrA K B es ws) : DrA K B (ds ++ es) (vs ++ ws) := by
  induction ds generalizing vs with
  | nil => cases h; exact h'
  | cons x r ih => cases h with | cons h1 t => exact .cons h1 (ih t)
theorem DrA.snoc {ds : List D} {vs : List V} {d : D} {v : V} (h : DrA K B ds vs) (h' : Dr K B d v) : DrA K B (ds ++ [d]) (vs ++ [v]) := h.append (.cons h' .nil)
theorem DrA.take {ds : List D} {vs : List V} (n : Nat) (h : DrA K B ds vs) : DrA K B (ds.take n) (vs.take n) := by
  induction ds generalizing vs n with
  | nil => cases h; simp; exact .nil
  | cons x r ih =>
    cases h with
    | cons h1 t =>
      cases n with
      | zero => exact .nil
      | succ n => exact .cons h1 (ih n t)
theorem DrA.drop {ds : List D} {vs : List V} (n : Nat) (h : DrA K B ds vs) : DrA K B (ds.drop n) (vs.drop n) := by
  induction ds generalizing vs n with
  | nil => cases h; simp; exact .nil
  | cons x r ih =>
    cases h with
    | cons h1 t =>
      cases n with
      | zero => exact .cons h1 t
      | succ n => exact ih n t
theorem DrA.set {ds : List D} {vs : List V} {d : D} {v : V} (n : Nat) (h : DrA K B ds vs) (h' : Dr K B d v) : DrA K B (ds.set n d) (vs.set n v) := by
  induction ds generalizing vs n with
  | nil => cases h; exact .nil
  | cons x r ih =>
    cases h with
    | cons h1 t =>
      cases n with
      | zero => exact .cons h' t
      | succ n => exact .cons h1 (ih n t)
theorem DrA.ints {ns : List Int} : DrA K B (ns.map D.int) (ns.map V.int) := by
  induction ns with
  | nil => exact .nil
  | cons x r ih => exact .cons (.int x) ih
theorem DrA.ints_inv {ns : List Int} {vs : List V} (h : DrA K B (ns.map D.int) vs) : vs = ns.map V.int := by
  induction ns generalizing vs with
  | nil => cases h; rfl
  | cons x r ih =>
    cases h with
    | cons h1 t => cases h1; rw [ih t]; rfl
theorem DrF.look {fs : List (Str × D)} {gs : List (Str × V)} {f : Str} {d : D} (h : DrF K B fs gs) (e : fs.lookup f = some d) : ∃ v, gs.lookup f = some v ∧ Dr K B d v := by
  induction fs generalizing gs with
  | nil => simp at e
  | cons x r ih =>
    cases h with
    | cons h1 t =>
      rw [List.lookup_cons] at e ⊢
      split at e
      · cases e; exact ⟨_, rfl, h1⟩
      · exact ih t e
theorem DrF.none {fs : List (Str × D)} {gs : List (Str × V)} {f : Str} (h : DrF K B fs gs) (e : fs.lookup f = none) : gs.lookup f = none := by
  induction fs generalizing gs with
  | nil => cases h; rfl
  | cons x r ih =>
    cases h with
    | cons h1 t =>
      rw [List.lookup_cons] at e ⊢
      split at e
      · cases e
      · exact ih t e
theorem DrF.len {ds : List (Str × D)} {vs : List (Str × V)} : DrF K B ds vs → ds.length = vs.length := by
  intro h
  induction ds generalizing vs with
  | nil => cases h; rfl
  | cons d r ih => cases h with | cons _ t => simp [ih t]
def putFD (f : Str) (d : D) : List (Str × D) → List (Str × D)
  | [] => [(f, d)]
  | (g, x) :: r => if g = f then (g, d) :: r else (g, x) :: putFD f d r
end

def keyD : Key → D
  | .inl i => .int i
  | .inr x => .str x
theorem keyD_v {K : PySem.W.Frag} {B : Hp} {k : Key} {v : V} (h : Dr K B (keyD k) v) : v = kV k := by
  cases k with
  | inl i => cases h; rfl
  | inr i => cases h; rfl
theorem dra_keys {K : PySem.W.Frag} {B : Hp} : ∀ ks : List Key, DrA K B (ks.map keyD) (ks.map kV)
  | [] => .nil
  | .inl i :: r => .cons (.int i) (dra_keys r)
  | .inr x :: r => .cons (.str x) (dra_keys r)
/-- data seen otherwise -/
inductive See : D → D → Prop
  | kt (k : List Key) : See (.kt k) (.tup (k.map keyD))
theorem See.dr {K : PySem.W.Frag} {B : Hp} {d e : D} {v : V} (s : See d e) (h : Dr K B d v) : Dr K B e v := by
  cases s with
  | kt k => cases h with | kt h => exact .tup (.inl (.inl h)) (dra_keys k)
/-! ### worlds -/
/-- a tuple of ints and texts is data -/
def KtOk (B H : Hp) : Prop := ∀ (a : Addr) (k : List Key), H a = some (.tup (k.map kV)) → B a = some (.tup (k.map kV))
def NoKt (o : HO) : Prop := ∀ k : List Key, o ≠ .tup (k.map kV)
structure Wd where
  B : Hp
  H : Hp
  sub : Same B H
  kt : KtOk B H
structure Wd.le (w w' : Wd) : Prop where
  b : Same w.B w'.B
  h : Same w.H w'.H
  f : ∀ p o, w.H p = some o → w'.B p = w.B p
theorem Wd.rfl' (w : Wd) : w.le w := ⟨Same.refl _, Same.refl _, fun _ _ _ => rfl⟩
theorem Wd.le.trans {a b c : Wd} (h : a.le b) (h' : b.le c) : a.le c := ⟨h.b.trans h'.b, h.h.trans h'.h, fun p o e => (h'.f p o (h.h p o e)).trans (h.f p o e)⟩
theorem same_upd {H : Hp} {p : Addr} {o : HO} (h : H p = none) : Same H (upd H p o) := fun b x e => by
  rw [upd_ne (ne_of_none e h)]; exact e
/-- a new immutable object -/
def Wd.new (w : Wd) (p : Addr) (o : HO) (hp : w.H p = none) : Wd := ⟨upd w.B p o, upd w.H p o, fun b x e => by
  by_cases hb : b = p
  · subst hb; rw [upd_same] at e ⊢; exact e
  · rw [upd_ne hb] at e ⊢; exact w.sub b x e, fun b k e => by
  by_cases hb : b = p
  · subst hb; rw [upd_same] at e ⊢; exact e
  · rw [upd_ne hb] at e ⊢; exact w.kt b k e⟩
theorem Wd.freeB {w : Wd} {p : Addr} (h : w.H p = none) : w.B p = none := w.sub.free h
theorem Wd.le_new {w : Wd} {p : Addr} {o : HO} (hp : w.H p = none) : w.le (w.new p o hp) :=
  ⟨same_upd (w.freeB hp), same_upd hp, fun q u e => upd_ne (ne_of_none e hp)⟩
/-- a new object of one's own -/
theorem kt_upd {B H : Hp} {p : Addr} {o : HO} (k0 : KtOk B H) (ho : NoKt o) : KtOk B (upd H p o) := fun b k e => by
  by_cases hb : b = p
  · subst hb; rw [upd_same] at e; exact (ho k (Option.some.inj e)).elim
  · rw [upd_ne hb] at e; exact k0 b k e
def Wd.lay (w : Wd) (p : Addr) (o : HO) (hp : w.H p = none) (ho : NoKt o := by intro _ z; cases z) : Wd := ⟨w.B, upd w.H p o, w.sub.trans (same_upd hp), kt_upd w.kt ho⟩
theorem Wd.le_lay {w : Wd} {p : Addr} {o : HO} (hp : w.H p = none) {ho : NoKt o} : w.le (w.lay p o hp ho) := ⟨Same.refl _, same_upd hp, fun _ _ _ => rfl⟩
/-- an own object changed -/
def Wd.put (w : Wd) (p : Addr) (o : HO) (hp : w.B p = none) (ho : NoKt o := by intro _ z; cases z) : Wd := ⟨w.B, upd w.H p o, fun b x e => by
  rw [upd_ne (ne_of_none e hp)]; exact w.sub b x e, kt_upd w.kt ho⟩
/-- an own object locked for ever -/
def Wd.frzL (w : Wd) (fp : List Addr) : Wd := ⟨fun a => if a ∈ fp then w.H a else w.B a, w.H, fun b x e => by
  by_cases hb : b ∈ fp
  · simpa [hb] using e
  · simp [hb] at e; exact w.sub b x e, fun b k e => by
  by_cases hb : b ∈ fp
  · simpa [hb] using e
  · simp [hb]; exact w.kt b k e⟩

/-! ### trees of one's own -/
inductive OT where
  | imm (d : D) | lst (xs : List OT) | tup (xs : List OT) | dK (kvs : List (Key × OT)) | dT (kvs : List (List Key × OT)) | ins (C : Addr) (fs : List (Str × OT))
def OT.nd : OT → Bool | .imm _ => false | _ => true
theorem nokt_ref {p : Addr} {r : List V} : NoKt (.tup (.ref p :: r)) := fun k z => by
  cases k with
  | nil => cases z
  | cons a t => cases a <;> cases z
/-- a flat list -/
def oL (ds : List D) : OT := .lst (ds.map .imm)
mutual
inductive TR (K : PySem.W.Frag) (B H : Hp) : OT → V → List Addr → Prop
  | imm {d : D} {v : V} : Dr K B d v → TR K B H (.imm d) v []
  | lst {p : Addr} {xs : List OT} {vs : List V} {fp : List Addr} : H p = some (.lst vs) → TRs K B H xs vs fp → TR K B H (.lst xs) (.ref p) (p :: fp)
  | tup {p : Addr} {xs : List OT} {vs : List V} {fp : List Addr} : H p = some (.tup vs) → TRs K B H xs vs fp → TR K B H (.tup xs) (.ref p) (p :: fp)
  | dK {p : Addr} {xs : List (Key × OT)} {vs : List (Key × V)} {fp : List Addr} : H p = some (.dK vs) → vs.map (·.1) = xs.map (·.1) → TRs K B H (xs.map (·.2)) (vs.map (·.2)) fp → TR K B H (.dK xs) (.ref p) (p :: fp)
  | dT {p : Addr} {xs : List (List Key × OT)} {vs : List (List Key × V)} {fp : List Addr} : H p = some (.dT vs) → vs.map (·.1) = xs.map (·.1) → TRs K B H (xs.map (·.2)) (vs.map (·.2)) fp → TR K B H (.dT xs) (.ref p) (p :: fp)
  | ins {p C dx : Addr} {xs : List (Str × OT)} {vs : List (Str × V)} {fp : List Addr} : H p = some (.ins C dx vs) → vs.map (·.1) = xs.map (·.1) → TRs K B H (xs.map (·.2)) (vs.map (·.2)) fp → TR K B H (.ins C xs) (.ref p) (p :: fp)
inductive TRs (K : PySem.W.Frag) (B H : Hp) : List OT → List V → List Addr → Prop
  | nil : TRs K B H [] [] []
  | cons {x : OT} {v : V} {f1 f2 : List Addr} {xs : List OT} {vs : List V} : TR K B H x v f1 → TRs K B H xs vs f2 → TRs K B H (x :: xs) (v :: vs) (f1 ++ f2)
end
section
variable {K : PySem.W.Frag} {B B' H H' : Hp}
mutual
theorem TR.mono (hb : Same B B') : ∀ {t : OT} {v : V} {fp : List Addr}, TR K B H t v fp → (∀ p o, p ∈ fp → H p = some o → H' p = some o) → TR K B' H' t v fp
  | _, _, _, .imm h, _ => .imm (h.mono hb)
  | _, _, _, .lst h r, hh => .lst (hh _ _ (by simp) h) (TRs.mono hb r fun p o z => hh p o (by simp [z]))
  | _, _, _, .tup h r, hh => .tup (hh _ _ (by simp) h) (TRs.mono hb r fun p o z => hh p o (by simp [z]))
  | _, _, _, .dK h e r, hh => .dK (hh _ _ (by simp) h) e (TRs.mono hb r fun p o z => hh p o (by simp [z]))
  | _, _, _, .dT h e r, hh => .dT (hh _ _ (by simp) h) e (TRs.mono hb r fun p o z => hh p o (by simp [z]))
  | _, _, _, .ins h e r, hh => .ins (hh _ _ (by simp) h) e (TRs.mono hb r fun p o z => hh p o (by simp [z]))
theorem TRs.mono (hb : Same B B') : ∀ {t : List OT} {v : List V} {fp : List Addr}, TRs K B H t v fp → (∀ p o, p ∈ fp → H p = some o → H' p = some o) → TRs K B' H' t v fp
  | _, _, _, .nil, _ => .nil
  | _, _, _, .cons h r, hh => .cons (TR.mono hb h fun p o z => hh p o (by simp [z])) (TRs.mono hb r fun p o z => hh p o (by simp [z]))
end
mutual
theorem TR.there : ∀ {t : OT} {v : V} {fp : List Addr}, TR K B H t v fp → ∀ p ∈ fp, ∃ o, H p = some o
  | _, _, _, .imm h, p, z => by simp at z
  | _, _, _, .lst h r, p, z => by rcases List.mem_cons.mp z with e | z; exact ⟨_, e ▸ h⟩; exact TRs.there r p z
  | _, _, _, .tup h r, p, z => by rcases List.mem_cons.mp z with e | z; exact ⟨_, e ▸ h⟩; exact TRs.there r p z
  | _, _, _, .dK h _ r, p, z => by rcases List.mem_cons.mp z with e | z; exact ⟨_, e ▸ h⟩; exact TRs.there r p z
  | _, _, _, .dT h _ r, p, z => by rcases List.mem_cons.mp z with e | z; exact ⟨_, e ▸ h⟩; exact TRs.there r p z
  | _, _, _, .ins h _ r, p, z => by rcases List.mem_cons.mp z with e | z; exact ⟨_, e ▸ h⟩; exact TRs.there r p z
theorem TRs.there : ∀ {t : List OT} {v : List V} {fp : List Addr}, TRs K B H t v fp → ∀ p ∈ fp, ∃ o, H p = some o
  | _, _, _, .nil, p, z => by simp at z
  | _, _, _, .cons h r, p, z => by rcases List.mem_append.mp z with z | z; exact TR.there h p z; exact TRs.there r p z
end
theorem TRs.len {xs : List OT} {vs : List V} {fp : List Addr} (h : TRs K B H xs vs fp) : xs.length = vs.length := by
  induction xs generalizing vs fp with
  | nil => cases h; rfl
  | cons x r ih => cases h with | cons _ t => simp [ih t]
theorem TRs.imms {ds : List D} {vs : List V} (h : DrA K B ds vs) : TRs K B H (ds.map .imm) vs [] := by
  induction ds generalizing vs with
  | nil => cases h; exact .nil
  | cons d r ih => cases h with | cons a b => exact .cons (.imm a) (ih b)
theorem TRs.imms_inv {ds : List D} {vs : List V} {fp : List Addr} (h : TRs K B H (ds.map .imm) vs fp) : fp = [] ∧ DrA K B ds vs := by
  induction ds generalizing vs fp with
  | nil => cases h; exact ⟨rfl, .nil⟩
  | cons d r ih =>
    cases h with
    | cons a b =>
      cases a with
      | imm a =>
        obtain ⟨rfl, c⟩ := ih b
        exact ⟨rfl, .cons a c⟩
theorem TR.ofL {p : Addr} {ds : List D} {vs : List V} (h : H p = some (.lst vs)) (r : DrA K B ds vs) : TR K B H (oL ds) (.ref p) [p] := .lst h (TRs.imms r)
theorem TR.oL_inv {ds : List D} {v : V} {fp : List Addr} (h : TR K B H (DL.oL ds) v fp) : ∃ p vs, v = .ref p ∧ fp = [p] ∧ H p = some (.lst vs) ∧ DrA K B ds vs := by
  unfold DL.oL at h
  cases h with
  | lst h r =>
    obtain ⟨e, q⟩ := r.imms_inv
    subst e
    exact ⟨_, _, rfl, rfl, h, q⟩
theorem TRs.append {xs ys : List OT} {vs ws : List V} {f g : List Addr} (h : TRs K B H xs vs f) (h' : TRs K B H ys ws g) : TRs K B H (xs ++ ys) (vs ++ ws) (f ++ g) := by
  induction xs generalizing vs f with
  | nil => cases h; exact h'
  | cons x r ih => cases h with | cons a b => rw [List.append_assoc]; exact .cons a (ih b)
mutual
inductive TD : OT → D → Prop
  | imm (d : D) : TD (.imm d) d
  | lst {xs : List OT} {ds : List D} : TDs xs ds → TD (.lst xs) (.lst ds)
  | tup {xs : List OT} {ds : List D} : TDs xs ds → TD (.tup xs) (.tup ds)
  | ins {C : Addr} {fs : List (Str × OT)} {ds : List D} : TDs (fs.map (·.2)) ds → TD (.ins C fs) (.obj C ((fs.map (·.1)).zip ds))
inductive TDs : List OT → List D → Prop
  | nil : TDs [] []
  | cons {x : OT} {d : D} {xs : List OT} {ds : List D} : TD x d → TDs xs ds → TDs (x :: xs) (d :: ds)
end
theorem TD.oL (ds : List D) : TD (DL.oL ds) (.lst ds) := .lst (by
  induction ds with
  | nil => exact .nil
  | cons d r ih => exact .cons (.imm d) ih)
theorem DrF.zip {ds : List D} {vs : List (Str × V)} (h : DrA K B ds (vs.map (·.2))) : DrF K B ((vs.map (·.1)).zip ds) vs := by
  induction vs generalizing ds with
  | nil => exact .nil
  | cons v r ih =>
    cases ds with
    | nil => cases h
    | cons d ds => cases h with | cons a b => exact .cons a (ih b)
mutual
theorem TD.dr (hb : Same B B') : ∀ {t : OT} {d : D}, TD t d → ∀ {v : V} {fp : List Addr}, TR K B H t v fp → (∀ p o, p ∈ fp → H p = some o → B' p = some o) → Dr K B' d v
  | _, _, .imm d, _, _, .imm h, _ => h.mono hb
  | _, _, .lst q, _, _, .lst h r, k => .lst (k _ _ (by simp) h) (TDs.dr hb q r fun p o z => k p o (by simp [z]))
  | _, _, .tup q, _, _, .tup h r, k => .tup (.inl (.inl (k _ _ (by simp) h))) (TDs.dr hb q r fun p o z => k p o (by simp [z]))
  | _, _, .ins q, _, _, .ins h e r, k => .obj (k _ _ (by simp) h) (by
    have := DrF.zip (TDs.dr hb q r fun p o z => k p o (by simp [z]))
    rw [e] at this; exact this)
theorem TDs.dr (hb : Same B B') : ∀ {t : List OT} {d : List D}, TDs t d → ∀ {v : List V} {fp : List Addr}, TRs K B H t v fp → (∀ p o, p ∈ fp → H p = some o → B' p = some o) → DrA K B' d v
  | _, _, .nil, _, _, .nil, _ => .nil
  | _, _, .cons q qs, _, _, .cons h r, k => .cons (TD.dr hb q h fun p o z => k p o (by simp [z])) (TDs.dr hb qs r fun p o z => k p o (by simp [z]))
end
/-- one child -/
theorem TRs.focus {xs : List OT} {vs : List V} {fp : List Addr} {j : Nat} {s : OT} (h : TRs K B H xs vs fp) (e : xs[j]? = some s) :
    ∃ u f1 fs, vs[j]? = some u ∧ fp.Perm (f1 ++ fs) ∧ TR K B H s u fs ∧ ∀ (B' H' : Hp) (s' : OT) (fs' : List Addr), Same B B' → (∀ p o, p ∈ f1 → H p = some o → H' p = some o) → TR K B' H' s' u fs' → ∃ fp', TRs K B' H' (xs.set j s') vs fp' ∧ fp'.Perm (f1 ++ fs') := by
  induction xs generalizing vs fp j with
  | nil => simp at e
  | cons x r ih =>
    cases h with
    | @cons _ v fa fb _ vs h t =>
      cases j with
      | zero =>
        simp at e; subst e
        exact ⟨v, fb, fa, rfl, List.perm_append_comm, h, fun B' H' s' fs' hb hh q => ⟨fs' ++ fb, .cons q (t.mono hb hh), List.perm_append_comm⟩⟩
      | succ j =>
        simp at e
        obtain ⟨u, f1, fs, e1, pm, q, rb⟩ := ih t e
        refine ⟨u, fa ++ f1, fs, by simpa using e1, ?_, q, fun B' H' s' fs' hb hh q' => ?_⟩
        · rw [List.append_assoc]; exact List.Perm.append_left fa pm
        · obtain ⟨fp', z1, z2⟩ := rb B' H' s' fs' hb (fun p o z => hh p o (by simp [z])) q'
          exact ⟨fa ++ fp', .cons (h.mono hb fun p o z => hh p o (by simp [z])) z1, by rw [List.append_assoc]; exact List.Perm.append_left fa z2⟩
theorem perm3 {α : Type} {p : α} {a b c d e : List α} (h : a.Perm (b ++ c)) (h' : c.Perm (d ++ e)) : (p :: a).Perm ((p :: (b ++ d)) ++ e) := by
  show (p :: a).Perm (p :: ((b ++ d) ++ e))
  rw [List.append_assoc]
  exact List.Perm.cons p (h.trans (List.Perm.append_left b h'))
/-- s stands in t: its value, and t with another in its place -/
inductive AtV (H : Hp) : OT → V → OT → V → (OT → OT) → Prop
  | here {t : OT} {v : V} : AtV H t v t v id
  | lst {p : Addr} {xs : List OT} {vs : List V} {j : Nat} {c s : OT} {cv u : V} {f : OT → OT} : H p = some (.lst vs) → xs[j]? = some c → vs[j]? = some cv → AtV H c cv s u f → AtV H (.lst xs) (.ref p) s u (fun s' => .lst (xs.set j (f s')))
  | tup {p : Addr} {xs : List OT} {vs : List V} {j : Nat} {c s : OT} {cv u : V} {f : OT → OT} : H p = some (.tup vs) → xs[j]? = some c → vs[j]? = some cv → AtV H c cv s u f → AtV H (.tup xs) (.ref p) s u (fun s' => .tup (xs.set j (f s')))
  | dK {p : Addr} {xs : List (Key × OT)} {vs : List (Key × V)} {j : Nat} {k : Key} {c s : OT} {cv u : V} {f : OT → OT} : H p = some (.dK vs) → xs[j]? = some (k, c) → vs[j]? = some (k, cv) → AtV H c cv s u f → AtV H (.dK xs) (.ref p) s u (fun s' => .dK (xs.set j (k, f s')))
  | dT {p : Addr} {xs : List (List Key × OT)} {vs : List (List Key × V)} {j : Nat} {k : List Key} {c s : OT} {cv u : V} {f : OT → OT} : H p = some (.dT vs) → xs[j]? = some (k, c) → vs[j]? = some (k, cv) → AtV H c cv s u f → AtV H (.dT xs) (.ref p) s u (fun s' => .dT (xs.set j (k, f s')))
  | ins {p C dx : Addr} {xs : List (Str × OT)} {vs : List (Str × V)} {j : Nat} {k : Str} {c s : OT} {cv u : V} {f : OT → OT} : H p = some (.ins C dx vs) → xs[j]? = some (k, c) → vs[j]? = some (k, cv) → AtV H c cv s u f → AtV H (.ins C xs) (.ref p) s u (fun s' => .ins C (xs.set j (k, f s')))
theorem AtV.mono {t s : OT} {v u : V} {f : OT → OT} (hh : Same H H') (a : AtV H t v s u f) : AtV H' t v s u f := by
  induction a with
  | here => exact .here
  | lst h e1 e2 _ ih => exact .lst (hh _ _ h) e1 e2 ih
  | tup h e1 e2 _ ih => exact .tup (hh _ _ h) e1 e2 ih
  | dK h e1 e2 _ ih => exact .dK (hh _ _ h) e1 e2 ih
  | dT h e1 e2 _ ih => exact .dT (hh _ _ h) e1 e2 ih
  | ins h e1 e2 _ ih => exact .ins (hh _ _ h) e1 e2 ih
theorem set_fst {κ α : Type} {xs : List (κ × α)} {j : Nat} {k : κ} {c x : α} (e : xs[j]? = some (k, c)) : (xs.set j (k, x)).map (·.1) = xs.map (·.1) := by
  apply List.ext_getElem?
  intro i
  rw [List.getElem?_map, List.getElem?_map, List.getElem?_set]
  by_cases hj : j = i
  · subst hj
    have hl := (List.getElem?_eq_some_iff.mp e).1
    simp [hl, e]
    have := (List.getElem?_eq_some_iff.mp e).2
    rw [this]
  · simp [hj]
theorem set_snd {κ α : Type} {xs : List (κ × α)} {j : Nat} {k : κ} {x : α} : (xs.set j (k, x)).map (·.2) = (xs.map (·.2)).set j x := by rw [List.map_set]
theorem AtV.focus {t s : OT} {v u : V} {f : OT → OT} (a : AtV H t v s u f) : ∀ {fp : List Addr}, TR K B H t v fp →
    ∃ f1 fs, fp.Perm (f1 ++ fs) ∧ TR K B H s u fs ∧ ∀ (B' H' : Hp) (s' : OT) (fs' : List Addr), Same B B' → (∀ p o, p ∈ f1 → H p = some o → H' p = some o) → TR K B' H' s' u fs' → ∃ fp', TR K B' H' (f s') v fp' ∧ fp'.Perm (f1 ++ fs') := by
  induction a with
  | here => intro fp h; exact ⟨[], fp, by simp, h, fun B' H' s' fs' _ _ q => ⟨fs', q, by simp⟩⟩
  | @lst p xs vs j c s cv u f h e1 e2 _ ih =>
    intro fp hT
    cases hT with
    | @lst _ _ vs' fp h' r =>
      rw [h] at h'; cases h'
      obtain ⟨u1, f1, fs, g1, g2, g3, g4⟩ := r.focus e1
      rw [e2] at g1; cases g1
      obtain ⟨k1, ks, m1, m2, m3⟩ := ih g3
      refine ⟨p :: (f1 ++ k1), ks, ?_, m2, fun B' H' s' fs' hb hh q => ?_⟩
      · exact perm3 g2 m1
      · obtain ⟨fp1, n1, n2⟩ := m3 B' H' s' fs' hb (fun p o z => hh p o (by simp [z])) q
        obtain ⟨fp2, o1, o2⟩ := g4 B' H' _ fp1 hb (fun p o z => hh p o (by simp [z])) n1
        exact ⟨p :: fp2, .lst (hh p _ (by simp) h) o1, perm3 o2 n2⟩
  | @tup p xs vs j c s cv u f h e1 e2 _ ih =>
    intro fp hT
    cases hT with
    | @tup _ _ vs' fp h' r =>
      rw [h] at h'; cases h'
      obtain ⟨u1, f1, fs, g1, g2, g3, g4⟩ := r.focus e1
      rw [e2] at g1; cases g1
      obtain ⟨k1, ks, m1, m2, m3⟩ := ih g3
      refine ⟨p :: (f1 ++ k1), ks, ?_, m2, fun B' H' s' fs' hb hh q => ?_⟩
      · exact perm3 g2 m1
      · obtain ⟨fp1, n1, n2⟩ := m3 B' H' s' fs' hb (fun p o z => hh p o (by simp [z])) q
        obtain ⟨fp2, o1, o2⟩ := g4 B' H' _ fp1 hb (fun p o z => hh p o (by simp [z])) n1
        exact ⟨p :: fp2, .tup (hh p _ (by simp) h) o1, perm3 o2 n2⟩
  | @dK p xs vs j k c s cv u f h e1 e2 _ ih =>
    intro fp hT
    cases hT with
    | @dK _ _ vs' fp h' ek r =>
      rw [h] at h'; cases h'
      obtain ⟨u1, f1, fs, g1, g2, g3, g4⟩ := r.focus (j := j) (s := c) (by rw [List.getElem?_map, e1]; rfl)
      rw [List.getElem?_map, e2] at g1; cases g1
      obtain ⟨k1, ks, m1, m2, m3⟩ := ih g3
      refine ⟨p :: (f1 ++ k1), ks, ?_, m2, fun B' H' s' fs' hb hh q => ?_⟩
      · exact perm3 g2 m1
      · obtain ⟨fp1, n1, n2⟩ := m3 B' H' s' fs' hb (fun p o z => hh p o (by simp [z])) q
        obtain ⟨fp2, o1, o2⟩ := g4 B' H' _ fp1 hb (fun p o z => hh p o (by simp [z])) n1
        exact ⟨p :: fp2, .dK (hh p _ (by simp) h) (by rw [set_fst e1]; exact ek) (by rw [set_snd]; exact o1), perm3 o2 n2⟩
  | @dT p xs vs j k c s cv u f h e1 e2 _ ih =>
    intro fp hT
    cases hT with
    | @dT _ _ vs' fp h' ek r =>
      rw [h] at h'; cases h'
      obtain ⟨u1, f1, fs, g1, g2, g3, g4⟩ := r.focus (j := j) (s := c) (by rw [List.getElem?_map, e1]; rfl)
      rw [List.getElem?_map, e2] at g1; cases g1
      obtain ⟨k1, ks, m1, m2, m3⟩ := ih g3
      refine ⟨p :: (f1 ++ k1), ks, ?_, m2, fun B' H' s' fs' hb hh q => ?_⟩
      · exact perm3 g2 m1
      · obtain ⟨fp1, n1, n2⟩ := m3 B' H' s' fs' hb (fun p o z => hh p o (by simp [z])) q
        obtain ⟨fp2, o1, o2⟩ := g4 B' H' _ fp1 hb (fun p o z => hh p o (by simp [z])) n1
        exact ⟨p :: fp2, .dT (hh p _ (by simp) h) (by rw [set_fst e1]; exact ek) (by rw [set_snd]; exact o1), perm3 o2 n2⟩
  | @ins p C dx xs vs j k c s cv u f h e1 e2 _ ih =>
    intro fp hT
    cases hT with
    | @ins _ _ _ _ vs' fp h' ek r =>
      rw [h] at h'; cases h'
      obtain ⟨u1, f1, fs, g1, g2, g3, g4⟩ := r.focus (j := j) (s := c) (by rw [List.getElem?_map, e1]; rfl)
      rw [List.getElem?_map, e2] at g1; cases g1
      obtain ⟨k1, ks, m1, m2, m3⟩ := ih g3
      refine ⟨p :: (f1 ++ k1), ks, ?_, m2, fun B' H' s' fs' hb hh q => ?_⟩
      · exact perm3 g2 m1
      · obtain ⟨fp1, n1, n2⟩ := m3 B' H' s' fs' hb (fun p o z => hh p o (by simp [z])) q
        obtain ⟨fp2, o1, o2⟩ := g4 B' H' _ fp1 hb (fun p o z => hh p o (by simp [z])) n1
        exact ⟨p :: fp2, .ins (hh p _ (by simp) h) (by rw [set_fst e1]; exact ek) (by rw [set_snd]; exact o1), perm3 o2 n2⟩
end
/-! ### slots -/
/-- what a slot holds: nothing known; data for ever; a tree of one's own; a parameter's tree, the caller's; a list that is read; the script -/
inductive Sl where
  | un | val (d : D) | own (t : OT) | io (t : OT) | bor (ds : List D) | scr (ds : List D) | brt (t : OT)
/-- the world and the arguments at a def's entry -/
structure En where
  w0 : Wd
  args : List V
def Own (K : PySem.W.Frag) (H0 : Hp) (w : Wd) (t : OT) (v : V) (fp : List Addr) : Prop := TR K w.B w.H t v fp ∧ fp.Nodup ∧ ∀ p ∈ fp, H0 p = none ∧ w.B p = none
def SlS (K : PySem.W.Frag) (en : En) (w : Wd) (i : Nat) : Sl → Option V → List Addr → Prop
  | .un, _, fp => fp = []
  | .val d, o, fp => fp = [] ∧ ∃ v, o = some v ∧ Dr K w.B d v
  | .own t, o, fp => ∃ v, o = some v ∧ Own K en.w0.H w t v fp
  | .io t, o, fp => (∃ v, o = some v ∧ Own K en.w0.H w t v fp) ∧ en.args[i]? = o
  | .bor ds, o, fp => fp = [] ∧ ∃ p xs, o = some (.ref p) ∧ en.w0.H p = some (.lst xs) ∧ DrA K w.B ds xs
  | .scr ds, o, fp => fp = [] ∧ ∃ p xs, o = some (.ref p) ∧ SqL K en.w0.H p xs ∧ DrA K w.B ds xs
  | .brt t, o, fp => fp = [] ∧ ∃ v f', o = some v ∧ TR K w.B en.w0.H t v f'
/-- a result: w the world ahead, w' behind -/
def SlN (K : PySem.W.Frag) (w w' : Wd) : Sl → V → Prop
  | .un, _ => True
  | .val d, v => Dr K w'.B d v
  | .own t, v => ∃ fp, Own K w.H w' t v fp
  | .io _, _ => False
  | .bor ds, v => ∃ p xs, v = .ref p ∧ w'.H p = some (.lst xs) ∧ DrA K w'.B ds xs
  | .scr ds, v => ∃ p xs, v = .ref p ∧ SqL K w'.H p xs ∧ DrA K w'.B ds xs
  | .brt t, v => ∃ f', TR K w'.B w'.H t v f'
structure RelF (K : PySem.W.Frag) (en : En) (w : Wd) (env : List Sl) (σ : L2.St) (F : Nat → List Addr) : Prop where
  le : en.w0.le w
  len : env.length = σ.length
  an : en.args.length ≤ env.length
  sl : ∀ (i : Nat) s o, env[i]? = some s → σ[i]? = some o → SlS K en w i s o (F i)
  ap : ∀ (i j : Nat) p, i < env.length → j < env.length → p ∈ F i → p ∈ F j → i = j
def Rel (K : PySem.W.Frag) (en : En) (w : Wd) (env : List Sl) (σ : L2.St) : Prop := ∃ F, RelF K en w env σ F
section
variable {K : PySem.W.Frag} {en : En} {w w' w'' : Wd} {env : List Sl} {σ : L2.St} {F : Nat → List Addr}
theorem Own.keep {H0 : Hp} {t : OT} {v : V} {fp : List Addr} (hb : Same w.B w'.B) (hh : ∀ p o, p ∈ fp → w.H p = some o → w'.H p = some o ∧ (w.B p = none → w'.B p = none)) (h : Own K H0 w t v fp) : Own K H0 w' t v fp := by
  obtain ⟨a, b, c⟩ := h
  refine ⟨a.mono hb fun p o z e => (hh p o z e).1, b, fun p z => ⟨(c p z).1, ?_⟩⟩
  obtain ⟨o, e⟩ := a.there p z
  exact (hh p o z e).2 (c p z).2
theorem Own.grow {H0 : Hp} {t : OT} {v : V} {fp : List Addr} (e : w.le w') (h : Own K H0 w t v fp) : Own K H0 w' t v fp := h.keep e.b fun p o _ z => ⟨e.h _ _ z, fun n => (e.f p o z).trans n⟩
theorem SlS.keep {i : Nat} {s : Sl} {o : Option V} {fp : List Addr} (hb : Same w.B w'.B) (hh : ∀ p o, p ∈ fp → w.H p = some o → w'.H p = some o ∧ (w.B p = none → w'.B p = none)) (h : SlS K en w i s o fp) : SlS K en w' i s o fp := by
  cases s with
  | un => exact h
  | val d => obtain ⟨e0, v, e1, r⟩ := h; exact ⟨e0, v, e1, r.mono hb⟩
  | own t => obtain ⟨v, e1, r⟩ := h; exact ⟨v, e1, r.keep hb hh⟩
  | io t => obtain ⟨⟨v, e1, r⟩, q⟩ := h; exact ⟨⟨v, e1, r.keep hb hh⟩, q⟩
  | bor ds => obtain ⟨e0, p, xs, e1, e2, r⟩ := h; exact ⟨e0, p, xs, e1, e2, r.mono hb⟩
  | scr ds => obtain ⟨e0, p, xs, e1, e2, r⟩ := h; exact ⟨e0, p, xs, e1, e2, r.mono hb⟩
  | brt t => obtain ⟨e0, v, f', e1, r⟩ := h; exact ⟨e0, v, f', e1, r.mono hb fun _ _ _ z => z⟩
theorem SlS.grow {i : Nat} {s : Sl} {o : Option V} {fp : List Addr} (e : w.le w') (h : SlS K en w i s o fp) : SlS K en w' i s o fp := h.keep e.b fun p o _ z => ⟨e.h _ _ z, fun n => (e.f p o z).trans n⟩
/-- a slot's own nodes stand in the heap, not in what is data -/
theorem SlS.fp {i : Nat} {s : Sl} {o : Option V} {fp : List Addr} (h : SlS K en w i s o fp) : ∀ p ∈ fp, (∃ o, w.H p = some o) ∧ en.w0.H p = none ∧ w.B p = none := by
  have own : ∀ {t v}, Own K en.w0.H w t v fp → ∀ p ∈ fp, (∃ o, w.H p = some o) ∧ en.w0.H p = none ∧ w.B p = none := fun h p z => ⟨h.1.there p z, h.2.2 p z⟩
  cases s with
  | un => intro p z; rw [show fp = [] from h] at z; simp at z
  | val d => intro p z; rw [h.1] at z; simp at z
  | own t => obtain ⟨v, _, r⟩ := h; exact own r
  | io t => obtain ⟨⟨v, _, r⟩, _⟩ := h; exact own r
  | bor ds => intro p z; rw [h.1] at z; simp at z
  | scr ds => intro p z; rw [h.1] at z; simp at z
  | brt ds => intro p z; rw [h.1] at z; simp at z
theorem SlN.grow {s : Sl} {v : V} (e : w'.le w'') (h : SlN K w w' s v) : SlN K w w'' s v := by
  cases s with
  | un => trivial
  | val d => exact Dr.mono e.b h
  | own t => obtain ⟨fp, r⟩ := h; exact ⟨fp, r.grow e⟩
  | io t => exact h
  | bor ds => obtain ⟨p, xs, e1, e2, r⟩ := h; exact ⟨p, xs, e1, e.h _ _ e2, r.mono e.b⟩
  | scr ds => obtain ⟨p, xs, e1, e2, r⟩ := h; exact ⟨p, xs, e1, e.h.seq e2, r.mono e.b⟩
  | brt t => obtain ⟨f', r⟩ := h; exact ⟨f', r.mono e.b fun p o _ z => e.h p o z⟩
theorem SlN.back {s : Sl} {v : V} (e : w.le w') (h : SlN K w' w'' s v) : SlN K w w'' s v := by
  cases s with
  | own t => obtain ⟨fp, a, b, c⟩ := h; exact ⟨fp, a, b, fun p z => ⟨e.h.free (c p z).1, (c p z).2⟩⟩
  | un => trivial
  | val d => exact h
  | io t => exact h
  | bor ds => exact h
  | scr ds => exact h
  | brt ds => exact h
theorem RelF.grow (R : RelF K en w env σ F) (e : w.le w') : RelF K en w' env σ F := ⟨R.le.trans e, R.len, R.an, fun i s o a b => (R.sl i s o a b).grow e, R.ap⟩
theorem Rel.grow (R : Rel K en w env σ) (e : w.le w') : Rel K en w' env σ := let ⟨F, R⟩ := R; ⟨F, R.grow e⟩
theorem Rel.le (R : Rel K en w env σ) : en.w0.le w := let ⟨_, R⟩ := R; R.le
theorem Rel.an (R : Rel K en w env σ) : en.args.length ≤ env.length := let ⟨_, R⟩ := R; R.an
theorem Rel.len (R : Rel K en w env σ) : env.length = σ.length := let ⟨_, R⟩ := R; R.len
theorem RelF.at {i : Nat} {s : Sl} (R : RelF K en w env σ F) (e : env[i]? = some s) : ∃ o, σ[i]? = some o ∧ SlS K en w i s o (F i) := by
  have : i < σ.length := by rw [← R.len]; exact (List.getElem?_eq_some_iff.mp e).1
  exact ⟨σ[i], List.getElem?_eq_getElem this, R.sl i s _ e (List.getElem?_eq_getElem this)⟩
theorem Rel.at {i : Nat} {s : Sl} (R : Rel K en w env σ) (e : env[i]? = some s) : ∃ o fp, σ[i]? = some o ∧ SlS K en w i s o fp := let ⟨F, R⟩ := R; let ⟨o, a, b⟩ := R.at e; ⟨o, F i, a, b⟩
/-- one slot anew, perhaps another world -/
theorem RelF.upd {i : Nat} {s : Sl} {o : Option V} {fp : List Addr} (R : RelF K en w env σ F) (hle : en.w0.le w') (keep : ∀ (j : Nat) s o, j ≠ i → env[j]? = some s → SlS K en w j s o (F j) → SlS K en w' j s o (F j))
    (new : SlS K en w' i s o fp) (dis : ∀ (j : Nat) p, j ≠ i → j < env.length → p ∈ fp → p ∈ F j → False) : RelF K en w' (env.set i s) (σ.set i o) (fun j => if j = i then fp else F j) := by
  refine ⟨hle, by simp [R.len], by simpa using R.an, fun j s' o' a b => ?_, fun j k p hj hk a b => ?_⟩
  · by_cases hj : j = i
    · subst hj
      have h1 : j < env.length := by simpa using (List.getElem?_eq_some_iff.mp a).1
      rw [List.getElem?_set_self h1] at a
      rw [List.getElem?_set_self (by rw [← R.len]; exact h1)] at b
      cases a; cases b
      simpa using new
    · rw [List.getElem?_set_ne (Ne.symm hj)] at a b
      simp only [hj, if_false]
      exact keep j s' o' hj a (R.sl j s' o' a b)
  · simp only [List.length_set] at hj hk
    by_cases h1 : j = i
    · by_cases h2 : k = i
      · rw [h1, h2]
      · simp only [h1, if_true] at a; simp only [h2, if_false] at b
        exact (dis k p h2 hk a b).elim
    · by_cases h2 : k = i
      · simp only [h2, if_true] at b; simp only [h1, if_false] at a
        exact (dis j p h1 hj b a).elim
      · simp only [h1, if_false] at a; simp only [h2, if_false] at b
        exact R.ap j k p hj hk a b
theorem Rel.setVal {i : Nat} {d : D} {v : V} (R : Rel K en w env σ) (h : Dr K w.B d v) : Rel K en w (env.set i (.val d)) (σ.set i (some v)) := by
  obtain ⟨F, R⟩ := R
  exact ⟨_, R.upd (fp := []) R.le (fun _ _ _ _ _ z => z) ⟨rfl, v, rfl, h⟩ fun _ _ _ _ z => by simp at z⟩
theorem Rel.setUn {i : Nat} {v : Option V} (R : Rel K en w env σ) : Rel K en w (env.set i .un) (σ.set i v) := by
  obtain ⟨F, R⟩ := R
  exact ⟨_, R.upd (fp := []) R.le (fun _ _ _ _ _ z => z) rfl fun _ _ _ _ z => by simp at z⟩
theorem slot_at {i : Nat} (h : i < env.length) (hl : env.length = σ.length) : ∃ s o, env[i]? = some s ∧ σ[i]? = some o :=
  ⟨env[i], σ[i], List.getElem?_eq_getElem h, List.getElem?_eq_getElem (by omega)⟩
/-- a new tree is stored: w the world ahead of the expression -/
theorem Rel.setOwn {i : Nat} {t : OT} {v : V} (R : Rel K en w env σ) (e : w.le w') (h : SlN K w w' (.own t) v) : Rel K en w' (env.set i (.own t)) (σ.set i (some v)) := by
  obtain ⟨F, R⟩ := R
  obtain ⟨fp, a, b, c⟩ := h
  refine ⟨_, R.upd (w' := w') (fp := fp) (R.le.trans e) (fun j s o _ _ z => z.grow e) ⟨v, rfl, a, b, fun p z => ⟨R.le.h.free (c p z).1, (c p z).2⟩⟩ fun j p hj hl z1 z2 => ?_⟩
  obtain ⟨s, o, q1, q2⟩ := slot_at hl R.len
  obtain ⟨⟨o', h1⟩, _⟩ := (R.sl j s o q1 q2).fp p z2
  rw [(c p z1).1] at h1
  cases h1
/-- a node in a slot's tree is written: the subtree s at u becomes s', its nodes fs' -/
theorem Rel.node {i : Nat} {t s s' : OT} {v u : V} {f : OT → OT} {w1 : Wd} (R : Rel K en w env σ) (e : env[i]? = some (.own t) ∨ env[i]? = some (.io t)) (hv : σ[i]? = some (some v)) (a : AtV w.H t v s u f)
    (hb : Same w.B w1.B)
    (new : ∀ fs, TR K w.B w.H s u fs → fs.Nodup → (∀ p ∈ fs, en.w0.H p = none ∧ w.B p = none) →
      (∀ p o, p ∉ fs → w.H p = some o → w1.H p = some o ∧ (w.B p = none → w1.B p = none)) ∧ ∃ fs', TR K w1.B w1.H s' u fs' ∧ fs'.Nodup ∧ ∀ p ∈ fs', en.w0.H p = none ∧ w1.B p = none ∧ (p ∈ fs ∨ w.H p = none))
    (hf : ∀ p o, en.w0.H p = some o → w1.B p = en.w0.B p) :
    Rel K en w1 (env.set i (match env[i]? with | some (.io _) => .io (f s') | _ => .own (f s'))) σ := by
  obtain ⟨F, R⟩ := R
  have hl : i < env.length := by rcases e with e | e <;> exact (List.getElem?_eq_some_iff.mp e).1
  have own : Own K en.w0.H w t v (F i) := by
    rcases e with e | e
    · obtain ⟨v', z, r⟩ := R.sl i _ _ e hv; cases z; exact r
    · obtain ⟨⟨v', z, r⟩, _⟩ := R.sl i _ _ e hv; cases z; exact r
  obtain ⟨tr, nd, no⟩ := own
  obtain ⟨f1, fs, pm, ts, rb⟩ := a.focus tr
  have nd2 : (f1 ++ fs).Nodup := pm.nodup_iff.mp nd
  have inF : ∀ p, p ∈ f1 ∨ p ∈ fs → p ∈ F i := fun p z => pm.mem_iff.mpr (List.mem_append.mpr z)
  obtain ⟨keep, fs', ts', nd', no'⟩ := new fs ts (List.nodup_append.mp nd2).2.1 fun p z => no p (inF p (.inr z))
  have ndis : ∀ p, p ∈ f1 → p ∈ fs → False := fun p z1 z2 => (List.nodup_append.mp nd2).2.2 p z1 p z2 rfl
  obtain ⟨fp', tf, pm'⟩ := rb w1.B w1.H s' fs' hb (fun p o z q => (keep p o (ndis p z) q).1) ts'
  have kill : ∀ (j : Nat) p, j ≠ i → j < env.length → p ∈ F j → (∃ o, w.H p = some o) ∧ p ∉ F i ∧ en.w0.H p = none ∧ w.B p = none := fun j p hj hjl z => by
    obtain ⟨s, o, q1, q2⟩ := slot_at hjl R.len
    exact ⟨((R.sl j s o q1 q2).fp p z).1, fun z' => hj (R.ap j i p hjl hl z z'), ((R.sl j s o q1 q2).fp p z).2⟩
  have le1 : en.w0.le w1 := ⟨R.le.b.trans hb, fun p o z => (keep p o (fun z' => by
    have := (no p (inF p (.inr z'))).1
    rw [z] at this; cases this) (R.le.h p o z)).1, hf⟩
  have mem' : ∀ p, p ∈ fp' → p ∈ f1 ∨ p ∈ fs' := fun p z => List.mem_append.mp (pm'.mem_iff.mp z)
  have good : Own K en.w0.H w1 (f s') v fp' := by
    refine ⟨tf, pm'.nodup_iff.mpr (List.nodup_append.mpr ⟨(List.nodup_append.mp nd2).1, nd', fun p z q z2 e2 => ?_⟩), fun p z => ?_⟩
    · subst e2
      rcases (no' p z2).2.2 with h | h
      · exact ndis p z h
      · obtain ⟨o, h'⟩ := tr.there p (inF p (.inl z))
        rw [h] at h'; cases h'
    · rcases mem' p z with z | z
      · obtain ⟨o, h'⟩ := tr.there p (inF p (.inl z))
        exact ⟨(no p (inF p (.inl z))).1, (keep p o (ndis p z) h').2 (no p (inF p (.inl z))).2⟩
      · exact ⟨(no' p z).1, (no' p z).2.1⟩
  have hσ : σ.set i (some v) = σ := by
    apply List.ext_getElem?
    intro j
    rw [List.getElem?_set]
    by_cases hj : i = j
    · subst hj
      have : i < σ.length := by rw [← R.len]; exact hl
      simp [this, hv]
      have h2 := (List.getElem?_eq_some_iff.mp hv).2
      exact h2.symm
    · simp [hj]
  have main : ∀ s2, SlS K en w1 i s2 (some v) fp' → Rel K en w1 (env.set i s2) σ := fun s2 hs2 => by
    have := R.upd (w' := w1) (i := i) (s := s2) (o := some v) (fp := fp') le1 (fun j s3 o hj ej z => z.keep hb fun p o' hp q => by
      obtain ⟨_, k2, _⟩ := kill j p hj (List.getElem?_eq_some_iff.mp ej).1 hp
      exact keep p o' (fun z => k2 (inF p (.inr z))) q) hs2 (fun j p hj hjl z1 z2 => by
      obtain ⟨⟨o, k1⟩, k2, _⟩ := kill j p hj hjl z2
      rcases mem' p z1 with z | z
      · exact k2 (inF p (.inl z))
      · rcases (no' p z).2.2 with h | h
        · exact k2 (inF p (.inr h))
        · rw [k1] at h; cases h)
    rw [hσ] at this
    exact ⟨_, this⟩
  rcases e with e | e
  · rw [e]; exact main _ ⟨v, rfl, good⟩
  · rw [e]
    have q := R.sl i _ _ e hv
    exact main _ ⟨⟨v, rfl, good⟩, q.2⟩
end
end DL

set_option Elab.async false
set_option linter.all false
set_option maxRecDepth 100000
set_option autoImplicit false
namespace DL
open PySem L2
abbrev TSt := L2.St
/-! ### judgements -/
def EvE (K : PySem.W.Frag) (te : TE) (env : List Sl) (P : Sl → Prop) : Prop := ∀ (en : En) (w : Wd) (σ : TSt), Rel K en w env σ → ∀ Q : VK, (∀ s v w', w.le w' → P s → SlN K w w' s v → Q v w'.H) → te σ w.H Q
def EvT (K : PySem.W.Frag) (tt : TT) (env : List Sl) (P : Bool → Prop) : Prop := ∀ (en : En) (w : Wd) (σ : TSt), Rel K en w env σ → ∀ Q : Bool → Hp → Prop, (∀ b (w' : Wd), w.le w' → P b → Q b w'.H) → tt σ w.H Q
def SlA (K : PySem.W.Frag) (w w' : Wd) (ss : List Sl) (vs : List V) : Prop := Paired (SlN K w w') ss vs
def EvA (K : PySem.W.Frag) (ta : TA) (env : List Sl) (P : List Sl → Prop) : Prop := ∀ (en : En) (w : Wd) (σ : TSt), Rel K en w env σ → ∀ Q : List V → Hp → Prop, (∀ ss vs w', w.le w' → P ss → SlA K w w' ss vs → Q vs w'.H) → ta σ w.H Q
def EvO (K : PySem.W.Frag) (to : TO) (env : List Sl) (P : Option Int → Prop) : Prop := ∀ (en : En) (w : Wd) (σ : TSt), Rel K en w env σ → ∀ Q : Option Int → Hp → Prop, (∀ o (w' : Wd), w.le w' → P o → Q o w'.H) → to σ w.H Q
def RvP (K : PySem.W.Frag) (r : R2) (s1 s2 : Sl) (P : Sl → Prop) : Prop := ∀ (w wx : Wd) (x y : V), w.le wx → SlN K w wx s1 x → SlN K w wx s2 y → ∀ Q : VK, (∀ s v w', wx.le w' → P s → SlN K w w' s v → Q v w'.H) → r x y wx.H Q
def RuP (K : PySem.W.Frag) (r : V → Hp → VK → Prop) (s1 : Sl) (P : Sl → Prop) : Prop := ∀ (w wx : Wd) (x : V), w.le wx → SlN K w wx s1 x → ∀ Q : VK, (∀ s v w', wx.le w' → P s → SlN K w w' s v → Q v w'.H) → r x wx.H Q
def RaP (K : PySem.W.Frag) (r : List V → Hp → VK → Prop) (ss : List Sl) (P : Sl → Prop) : Prop := ∀ (w wx : Wd) (vs : List V), w.le wx → SlA K w wx ss vs → ∀ Q : VK, (∀ s v w', wx.le w' → P s → SlN K w w' s v → Q v w'.H) → r vs wx.H Q
/-- a method of a built-in: the receiver, the arguments -/
def RmP (K : PySem.W.Frag) (r : V → List V → Hp → VK → Prop) (s : Sl) (ss : List Sl) (P : Sl → Prop) : Prop := ∀ (w wx : Wd) (x : V) (vs : List V), w.le wx → SlN K w wx s x → SlA K w wx ss vs → ∀ Q : VK, (∀ s v w', wx.le w' → P s → SlN K w w' s v → Q v w'.H) → r x vs wx.H Q
section
variable {K : PySem.W.Frag} {env : List Sl} {te ta tb : TE} {tt tu : TT} {tA tB : TA} {P P' : Sl → Prop} {w w' w'' : Wd}
theorem SlA.grow {ss : List Sl} {vs : List V} (e : w'.le w'') (h : SlA K w w' ss vs) : SlA K w w'' ss vs := Paired.mapP h fun _ _ z => z.grow e
theorem SlA.back {ss : List Sl} {vs : List V} (e : w.le w') (h : SlA K w' w'' ss vs) : SlA K w w'' ss vs := Paired.mapP h fun _ _ z => z.back e
theorem EvE.imp (h : EvE K te env P) (k : ∀ s, P s → P' s) : EvE K te env P' := fun en w σ R Q q => h en w σ R Q fun s v w' e p r => q s v w' e (k s p) r
theorem EvT.imp {P P' : Bool → Prop} (h : EvT K tt env P) (k : ∀ b, P b → P' b) : EvT K tt env P' := fun en w σ R Q q => h en w σ R Q fun b w' e p => q b w' e (k b p)
theorem EvA.imp {P P' : List Sl → Prop} (h : EvA K tA env P) (k : ∀ b, P b → P' b) : EvA K tA env P' := fun en w σ R Q q => h en w σ R Q fun b v w' e p r => q b v w' e (k b p) r
/-! ### names, constants -/
theorem ev_val {i : Nat} {d : D} (e : env[i]? = some (.val d)) (p : P (.val d)) : EvE K (tVar i) env P := fun en w σ R Q q => by
  obtain ⟨o, fp, h1, _, v, rfl, r⟩ := R.at e
  exact ⟨v, h1, q _ v w w.rfl' p r⟩
theorem ev_own {i : Nat} {ds : List D} (e : env[i]? = some (.own (oL ds))) (p : P (.bor ds)) : EvE K (tVar i) env P := fun en w σ R Q q => by
  obtain ⟨o, fp, h1, v, rfl, r, _⟩ := R.at e
  obtain ⟨pp, vs, rfl, _, h3, r⟩ := r.oL_inv
  exact ⟨.ref pp, h1, q _ _ w w.rfl' p ⟨pp, _, rfl, h3, r⟩⟩
theorem ev_io {i : Nat} {ds : List D} (e : env[i]? = some (.io (oL ds))) (p : P (.bor ds)) : EvE K (tVar i) env P := fun en w σ R Q q => by
  obtain ⟨o, fp, h1, ⟨v, rfl, r, _⟩, _⟩ := R.at e
  obtain ⟨pp, vs, rfl, _, h3, r⟩ := r.oL_inv
  exact ⟨.ref pp, h1, q _ _ w w.rfl' p ⟨pp, _, rfl, h3, r⟩⟩
theorem ev_bor {i : Nat} {ds : List D} (e : env[i]? = some (.bor ds)) (p : P (.bor ds)) : EvE K (tVar i) env P := fun en w σ R Q q => by
  obtain ⟨o, fp, h1, _, pp, xs, rfl, h2, r⟩ := R.at e
  exact ⟨.ref pp, h1, q _ _ w w.rfl' p ⟨pp, _, rfl, R.le.h _ _ h2, r⟩⟩
theorem ev_scr {i : Nat} {ds : List D} (e : env[i]? = some (.scr ds)) (p : P (.scr ds)) : EvE K (tVar i) env P := fun en w σ R Q q => by
  obtain ⟨o, fp, h1, _, pp, xs, rfl, h2, r⟩ := R.at e
  exact ⟨.ref pp, h1, q _ _ w w.rfl' p ⟨pp, _, rfl, R.le.h.seq h2, r⟩⟩
theorem ev_ownT {i : Nat} {t : OT} (e : env[i]? = some (.own t)) (p : P (.brt t)) : EvE K (tVar i) env P := fun en w σ R Q q => by
  obtain ⟨o, fp, h1, v, rfl, r, _⟩ := R.at e
  exact ⟨v, h1, q _ _ w w.rfl' p ⟨fp, r⟩⟩
theorem ev_ioT {i : Nat} {t : OT} (e : env[i]? = some (.io t)) (p : P (.brt t)) : EvE K (tVar i) env P := fun en w σ R Q q => by
  obtain ⟨o, fp, h1, ⟨v, rfl, r, _⟩, _⟩ := R.at e
  exact ⟨v, h1, q _ _ w w.rfl' p ⟨fp, r⟩⟩
theorem ev_brt {i : Nat} {t : OT} (e : env[i]? = some (.brt t)) (p : P (.brt t)) : EvE K (tVar i) env P := fun en w σ R Q q => by
  obtain ⟨o, fp, h1, _, v, f', rfl, r⟩ := R.at e
  exact ⟨v, h1, q _ _ w w.rfl' p ⟨f', r.mono (Same.refl _) fun p o _ z => R.le.h p o z⟩⟩
theorem ev_int {i : Int} (p : P (.val (.int i))) : EvE K (tC (.int i)) env P := fun en w σ R Q q => q _ _ w w.rfl' p (.int i)
theorem ev_bl {i : Bool} (p : P (.val (.bl i))) : EvE K (tC (.bl i)) env P := fun en w σ R Q q => q _ _ w w.rfl' p (.bl i)
theorem ev_str {i : Str} (p : P (.val (.str i))) : EvE K (tC (.str i)) env P := fun en w σ R Q q => q _ _ w w.rfl' p (.str i)
theorem ev_non (p : P (.val .non)) : EvE K (tC .non) env P := fun en w σ R Q q => q _ _ w w.rfl' p .non
theorem ev_ref {a : Addr} (p : P (.val (.ref a))) : EvE K (tC (.ref a)) env P := fun en w σ R Q q => q _ _ w w.rfl' p (.ref a)
theorem ev_ty {n : String} (p : P (.val (.ty n))) : EvE K (tC (.ty n)) env P := fun en w σ R Q q => q _ _ w w.rfl' p (.ty n)
/-! ### forms -/
theorem ev_op {r : R2} (h : EvE K ta env fun s1 => EvE K tb env fun s2 => RvP K r s1 s2 P) : EvE K (tOp r ta tb) env P := fun en w σ R Q q =>
  h en w σ R _ fun s1 x w1 e1 h1 r1 => h1 en w1 σ (R.grow e1) _ fun s2 y w2 e2 h2 r2 => h2 w w2 x y (e1.trans e2) (r1.grow e2) (r2.back e1) Q fun s v w' e3 p r => q s v w' ((e1.trans e2).trans e3) p r
theorem ev_un {r : V → Hp → VK → Prop} (h : EvE K ta env fun s1 => RuP K r s1 P) : EvE K (tUn r ta) env P := fun en w σ R Q q =>
  h en w σ R _ fun s1 x w1 e1 h1 r1 => h1 w w1 x e1 r1 Q fun s v w' e3 p r => q s v w' (e1.trans e3) p r
theorem ev_cb {r : List V → Hp → VK → Prop} (h : EvA K tA env fun ss => RaP K r ss P) : EvE K (tCB r tA) env P := fun en w σ R Q q =>
  h en w σ R _ fun ss vs w1 e1 h1 r1 => h1 w w1 vs e1 r1 Q fun s v w' e3 p r => q s v w' (e1.trans e3) p r
theorem ev_if (h : EvT K tt env fun b => (b = true → EvE K ta env P) ∧ (b = false → EvE K tb env P)) : EvE K (tIf tt ta tb) env P := fun en w σ R Q q =>
  h en w σ R _ fun b w1 e1 h1 => by
    cases b with
    | true => exact h1.1 rfl en w1 σ (R.grow e1) Q fun s v w' e p r => q s v w' (e1.trans e) p (r.back e1)
    | false => exact h1.2 rfl en w1 σ (R.grow e1) Q fun s v w' e p r => q s v w' (e1.trans e) p (r.back e1)
theorem ev_andV (h : EvE K ta env fun s => ∃ c, s = .val (.bl c) ∧ (c = true → EvE K tb env P) ∧ (c = false → P (.val (.bl false)))) : EvE K (tAndV ta tb) env P := fun en w σ R Q q =>
  h en w σ R _ fun s v w1 e1 h1 r1 => by
    obtain ⟨c, rfl, h2, h3⟩ := h1
    cases r1
    refine ⟨c, rfl, ?_⟩
    cases c with
    | true => exact h2 rfl en w1 σ (R.grow e1) Q fun s v w' e p r => q s v w' (e1.trans e) p (r.back e1)
    | false => exact q _ _ w1 e1 (h3 rfl) (.bl false)
theorem ev_orV (h : EvE K ta env fun s => ∃ c, s = .val (.bl c) ∧ (c = false → EvE K tb env P) ∧ (c = true → P (.val (.bl true)))) : EvE K (tOrV ta tb) env P := fun en w σ R Q q =>
  h en w σ R _ fun s v w1 e1 h1 r1 => by
    obtain ⟨c, rfl, h2, h3⟩ := h1
    cases r1
    refine ⟨c, rfl, ?_⟩
    cases c with
    | false => exact h2 rfl en w1 σ (R.grow e1) Q fun s v w' e p r => q s v w' (e1.trans e) p (r.back e1)
    | true => exact q _ _ w1 e1 (h3 rfl) (.bl true)
theorem ev_notV (h : EvE K ta env fun s => ∃ c, s = .val (.bl c) ∧ P (.val (.bl (!c)))) : EvE K (tNotV ta) env P := fun en w σ R Q q =>
  h en w σ R _ fun s v w1 e1 h1 r1 => by
    obtain ⟨c, rfl, h2⟩ := h1
    cases r1
    exact ⟨c, rfl, q _ _ w1 e1 h2 (.bl _)⟩
theorem eva_nil {P : List Sl → Prop} (p : P []) : EvA K tNil env P := fun en w σ R Q q => q [] [] w w.rfl' p .nil
theorem eva_cons {P : List Sl → Prop} (h : EvE K ta env fun s => EvA K tB env fun ss => P (s :: ss)) : EvA K (tCons ta tB) env P := fun en w σ R Q q =>
  h en w σ R _ fun s v w1 e1 h1 r1 => h1 en w1 σ (R.grow e1) _ fun ss vs w2 e2 h2 r2 => q (s :: ss) (v :: vs) w2 (e1.trans e2) h2 (.cons (r1.grow e2) (r2.back e1))
/-- a result of one's own becomes data -/
inductive Frz : Sl → D → Prop
  | val {d : D} : Frz (.val d) d
  | oL {ds : List D} : Frz (.own (oL ds)) (.lst ds)
  | tree {t : OT} {d : D} : TD t d → Frz (.own t) d
theorem Frz.td {t : OT} {d : D} (h : Frz (.own t) d) : TD t d := by
  cases h with
  | oL => exact TD.oL _
  | tree h => exact h
theorem Own.frz {H0 : Hp} {t : OT} {d : D} {v : V} {fp : List Addr} (h : Own K H0 w' t v fp) (td : TD t d) : Same w'.B (w'.frzL fp).B ∧ Dr K (w'.frzL fp).B d v := by
  have sb : Same w'.B (w'.frzL fp).B := fun b o e => by
    show (if b ∈ fp then w'.H b else w'.B b) = some o
    by_cases hb : b ∈ fp
    · rw [(h.2.2 b hb).2] at e; cases e
    · rw [if_neg hb]; exact e
  exact ⟨sb, td.dr sb h.1 fun p o z e => by show (if p ∈ fp then w'.H p else w'.B p) = some o; rw [if_pos z]; exact e⟩
theorem frz_ok {s : Sl} {d : D} {v : V} (e : w.le w') (f : Frz s d) (h : SlN K w w' s v) : ∃ w'' : Wd, w''.H = w'.H ∧ w.le w'' ∧ Same w'.B w''.B ∧ Dr K w''.B d v := by
  have tree : ∀ {t}, TD t d → SlN K w w' (.own t) v → ∃ w'' : Wd, w''.H = w'.H ∧ w.le w'' ∧ Same w'.B w''.B ∧ Dr K w''.B d v := fun td h => by
    obtain ⟨fp, ho⟩ := h
    obtain ⟨sb, dr⟩ := ho.frz td
    refine ⟨w'.frzL fp, rfl, ⟨e.b.trans sb, e.h, fun q o z => ?_⟩, sb, dr⟩
    show (if q ∈ fp then w'.H q else w'.B q) = _
    rw [if_neg fun z2 => by rw [(ho.2.2 q z2).1] at z; cases z]
    exact e.f q o z
  cases f with
  | val => exact ⟨w', rfl, e, Same.refl _, h⟩
  | oL => exact tree (TD.oL _) h
  | tree td => exact tree td h
theorem ev_frz (h : EvE K te env fun s => ∃ d, Frz s d ∧ P (.val d)) : EvE K te env P := fun en w σ R Q q =>
  h en w σ R _ fun s v w1 e1 h1 r1 => by
    obtain ⟨d, f, p⟩ := h1
    obtain ⟨w2, e2, e3, _, r2⟩ := frz_ok e1 f r1
    have := q (.val d) v w2 e3 p r2
    rw [e2] at this
    exact this
theorem SlA.vals {ds : List D} {vs : List V} (h : SlA K w w' (ds.map .val) vs) : DrA K w'.B ds vs := by
  induction ds generalizing vs with
  | nil => cases h; exact .nil
  | cons x r ih => cases h with | cons h1 t => exact .cons h1 (ih t)
theorem ev_tup (h : EvA K tA env fun ss => ∃ ds : List D, ss = ds.map .val ∧ ds.length ≤ 1000 ∧ P (.val (.tup ds))) : EvE K (tTup tA) env P := fun en w σ R Q q =>
  h en w σ R _ fun ss vs w1 e1 h1 r1 => by
    obtain ⟨ds, rfl, hl, p⟩ := h1
    have rd := r1.vals
    refine ⟨by rw [← rd.len]; exact Nat.le_of_lt (small1000 hl), fun pp hp => ?_⟩
    exact q _ _ (w1.new pp (.tup vs) hp) (e1.trans (Wd.le_new hp)) p (Dr.tup (.inl (.inl upd_same)) (rd.mono (Wd.le_new hp).b))
theorem ev_lst (h : EvA K tA env fun ss => ∃ ds : List D, ss = ds.map .val ∧ ds.length ≤ 1000 ∧ P (.own (oL ds))) : EvE K (tLst tA) env P := fun en w σ R Q q =>
  h en w σ R _ fun ss vs w1 e1 h1 r1 => by
    obtain ⟨ds, rfl, hl, p⟩ := h1
    have rd := r1.vals
    refine ⟨by rw [← rd.len]; exact Nat.le_of_lt (small1000 hl), fun pp hp => ?_⟩
    exact q _ _ (w1.lay pp (.lst vs) hp) (e1.trans (Wd.le_lay hp)) p ⟨[pp], TR.ofL upd_same rd, by simp, fun q z => by
      have e : q = pp := by simpa using z
      subst e
      exact ⟨e1.h.free hp, (show w1.B q = none from Wd.freeB hp)⟩⟩
/-- a field of data -/
theorem ev_fld {f : Str} (h : EvE K ta env fun s => ∃ C fs d, s = .val (.obj C fs) ∧ Cls K C ∧ NoAttr K C f ∧ fs.lookup f = some d ∧ P (.val d)) : EvE K (tFld K ta f) env P := fun en w σ R Q q =>
  h en w σ R _ fun s v w1 e1 h1 r1 => by
    obtain ⟨C, fs, d, rfl, c1, c2, c3, p⟩ := h1
    cases r1 with
    | obj hb rf =>
      obtain ⟨v, e, rd⟩ := rf.look c3
      exact ⟨_, C, _, _, v, rfl, w1.sub _ _ hb, c1, c2, e, q _ v w1 e1 p rd⟩
/-! ### tests -/
theorem et_test {P : Bool → Prop} (h : EvE K te env fun s => ∃ b, s = .val (.bl b) ∧ P b) : EvT K (tTest te) env P := fun en w σ R Q q =>
  h en w σ R _ fun s v w1 e1 h1 r1 => by
    obtain ⟨b, rfl, p⟩ := h1
    cases r1
    exact ⟨b, rfl, q b w1 e1 p⟩
theorem et_B {P : Bool → Prop} (h : EvE K te env fun s => ∃ b, s = .val (.bl b) ∧ P b) : EvT K (L2.tB te) env P := fun en w σ R Q q =>
  h en w σ R _ fun s v w1 e1 h1 r1 => by
    obtain ⟨b, rfl, p⟩ := h1
    cases r1
    exact ⟨b, rfl, q b w1 e1 p⟩
theorem et_and {P : Bool → Prop} (h : EvT K tt env fun b => (b = true → EvT K tu env P) ∧ (b = false → P false)) : EvT K (tAnd tt tu) env P := fun en w σ R Q q =>
  h en w σ R _ fun b w1 e1 h1 => by
    cases b with
    | true => exact h1.1 rfl en w1 σ (R.grow e1) Q fun b w' e p => q b w' (e1.trans e) p
    | false => exact q false w1 e1 (h1.2 rfl)
theorem et_or {P : Bool → Prop} (h : EvT K tt env fun b => (b = false → EvT K tu env P) ∧ (b = true → P true)) : EvT K (tOr tt tu) env P := fun en w σ R Q q =>
  h en w σ R _ fun b w1 e1 h1 => by
    cases b with
    | false => exact h1.1 rfl en w1 σ (R.grow e1) Q fun b w' e p => q b w' (e1.trans e) p
    | true => exact q true w1 e1 (h1.2 rfl)
theorem et_not {P : Bool → Prop} (h : EvT K tt env fun b => P (!b)) : EvT K (tNot tt) env P := fun en w σ R Q q =>
  h en w σ R _ fun b w1 e1 h1 => q _ w1 e1 h1
theorem et_yes {P : Bool → Prop} (p : P true) : EvT K tYes env P := fun en w σ R Q q => q true w w.rfl' p
/-- truth of a list that is read, of an int, a text -/
def tTruth (K : PySem.W.Frag) (ta : TE) : TT := fun σ H Q => ta σ H fun x H' => ∃ k, TruV K x H' k ∧ Q k H'
def TruS : Sl → Bool → Prop
  | .val .non, b => b = false
  | .val (.bl c), b => b = c
  | .val (.int i), b => b = (i != 0)
  | .val (.str x), b => b = (x.length != 0)
  | .val (.lst ds), b => b = !ds.isEmpty
  | .val (.tup ds), b => b = !ds.isEmpty
  | .bor ds, b => b = !ds.isEmpty
  | .scr ds, b => b = !ds.isEmpty
  | .brt t, b => ∃ ds, t = oL ds ∧ b = !ds.isEmpty
  | .own t, b => ∃ ds, t = oL ds ∧ b = !ds.isEmpty
  | _, _ => False
/-! ### calls -/
/-- a promise by data -/
abbrev SpD := List Sl → (Sl → Prop) → Prop
/-- .. of a def that changes parameters' trees -/
abbrev SpM := List Sl → (Sl → List Sl → Prop) → Prop
/-- what may be stored, handed back -/
inductive StS : Sl → Prop
  | val (d : D) : StS (.val d)
  | own (o : OT) : StS (.own o)
def spM (K : PySem.W.Frag) (S : SpM) : Sp := fun vs H Q _ => ∃ (en : En) (w : Wd) (as : List Sl) (R : Sl → List Sl → Prop), en.args = vs ∧ w.H = H ∧ Rel K en w as (vs.map some) ∧ S as R ∧
  ∀ s v w' as', StS s → Same w.B w'.B → Rel K en w' (as' ++ [s]) (vs.map some ++ [some v]) → R s as' → Q v w'.H
def spD (K : PySem.W.Frag) (S : SpD) : Sp := spM K fun as R => S as fun s => ∀ as', R s as'
/-- how an argument is seen by the callee -/
inductive Co : Sl → Sl → Prop
  | val {d : D} : Co (.val d) (.val d)
  | bor {ds : List D} : Co (.bor ds) (.bor ds)
  | scr {ds : List D} : Co (.scr ds) (.scr ds)
  | own {ds : List D} : Co (.own (oL ds)) (.bor ds)
  | valB {ds : List D} : Co (.val (.lst ds)) (.bor ds)
  | borS {ds : List D} : Co (.bor ds) (.scr ds)
  | ownT {t : OT} : Co (.own t) (.brt t)
  | brt {t : OT} : Co (.brt t) (.brt t)
  | brtB {ds : List D} : Co (.brt (oL ds)) (.bor ds)
  | valT {d : D} : Co (.val d) (.brt (.imm d))
  | un {s : Sl} : Co s .un
theorem Co.ok {s t : Sl} {v : V} {vs : List V} (c : Co s t) (h : SlN K w w' s v) (i : Nat) : SlS K ⟨w', vs⟩ w' i t (some v) [] := by
  cases c with
  | val => exact ⟨rfl, v, rfl, h⟩
  | bor => obtain ⟨p, xs, rfl, h1, h2⟩ := h; exact ⟨rfl, p, xs, rfl, h1, h2⟩
  | scr => obtain ⟨p, xs, rfl, h1, h2⟩ := h; exact ⟨rfl, p, xs, rfl, h1, h2⟩
  | own => obtain ⟨fp, h, _⟩ := h; obtain ⟨p, xs, rfl, _, h1, h2⟩ := h.oL_inv; exact ⟨rfl, p, xs, rfl, h1, h2⟩
  | valB => cases h with | lst h1 r => exact ⟨rfl, _, _, rfl, w'.sub _ _ h1, r⟩
  | borS => obtain ⟨p, xs, rfl, h1, h2⟩ := h; exact ⟨rfl, p, xs, rfl, .inl (.inl h1), h2⟩
  | ownT => obtain ⟨fp, h, _⟩ := h; exact ⟨rfl, v, fp, rfl, h⟩
  | brt => obtain ⟨fp, h⟩ := h; exact ⟨rfl, v, fp, rfl, h⟩
  | brtB => obtain ⟨fp, h⟩ := h; obtain ⟨p, xs, rfl, _, h1, h2⟩ := h.oL_inv; exact ⟨rfl, p, xs, rfl, h1, h2⟩
  | valT => exact ⟨rfl, v, [], rfl, .imm h⟩
  | un => exact rfl
theorem coA {ss ts : List Sl} {vs us : List V} (c : Paired Co ss ts) (h : SlA K w w' ss vs) : ts.length = vs.length ∧ ∀ (i : Nat) t o, ts[i]? = some t → (vs.map some)[i]? = some o → ∀ j, SlS K ⟨w', us⟩ w' j t o [] := by
  induction c generalizing vs with
  | nil => cases h; exact ⟨rfl, fun i t o e => by simp at e⟩
  | cons c1 _ ih =>
    cases h with
    | cons h1 t =>
      obtain ⟨l, k⟩ := ih t
      refine ⟨by simp [l], fun i t o e1 e2 j => ?_⟩
      cases i with
      | zero => simp at e1 e2; subst e1 e2; exact c1.ok h1 j
      | succ i => exact k i t o (by simpa using e1) (by simpa using e2) j
/-- the last slot of a relation as a result -/
theorem Rel.last {en : En} {as : List Sl} {s : Sl} {v : V} {us : TSt} (st : StS s) (R : Rel K en w' (as ++ [s]) (us ++ [some v])) : SlN K en.w0 w' s v := by
  have hl := R.len
  simp at hl
  obtain ⟨o, fp, h1, h2⟩ := R.at (i := as.length) (s := s) (by simp)
  rw [hl] at h1
  simp at h1
  subst h1
  cases st with
  | val d => obtain ⟨_, v', e, r⟩ := h2; cases e; exact r
  | own t => obtain ⟨v', e, r⟩ := h2; cases e; exact ⟨fp, r⟩
theorem ev_call {S : SpD} {E : XK} (h : EvA K tA env fun ss => ∃ ts, Paired Co ss ts ∧ S ts P) : EvE K (tCall (spD K S) [] E tA) env P := fun en w σ R Q q =>
  h en w σ R _ fun ss vs w1 e1 h1 r1 => by
    obtain ⟨ts, c, p⟩ := h1
    rw [List.append_nil]
    obtain ⟨hl, hk⟩ := coA (us := vs) c r1
    exact ⟨⟨w1, vs⟩, w1, ts, fun s _ => P s, rfl, rfl, ⟨fun _ => [], w1.rfl', by simp [hl], by simp [hl], fun i t o a b => hk i t o a b i, fun i j p _ _ z => by simp at z⟩, by simpa using p, fun s v w' as' st _ R' z =>
      q s v w' (e1.trans R'.le) z ((Rel.last st R').back e1)⟩
end
end DL

set_option Elab.async false
set_option linter.all false
set_option maxRecDepth 100000
set_option autoImplicit false
namespace DL
open PySem L2
theorem own_new {K : PySem.W.Frag} {w wx : Wd} {l : Addr} {ds : List D} {xs : List V} (e : w.le wx) (hl : wx.H l = none) (r : DrA K wx.B ds xs) : SlN K w (wx.lay l (.lst xs) hl) (.own (oL ds)) (.ref l) :=
  ⟨[l], TR.ofL upd_same r, by simp, fun q z => by
    have e1 : q = l := by simpa using z
    subst e1
    exact ⟨e.h.free hl, (show wx.B q = none from Wd.freeB hl)⟩⟩
section
variable {K : PySem.W.Frag} {env : List Sl} {P P' : Sl → Prop} {w w' w'' : Wd}
/-! ### operators -/
theorem rv_i0 {g : Int → Int → Int} {i j : Int} (p : P (.val (.int (g i j)))) : RvP K (rI0 fun i j => .int (g i j)) (.val (.int i)) (.val (.int j)) P := fun w wx x y e r1 r2 Q q => by
  cases r1; cases r2
  exact ⟨i, j, rfl, rfl, q _ _ wx wx.rfl' p (.int _)⟩
theorem rv_b0 {g : Int → Int → Bool} {i j : Int} (p : P (.val (.bl (g i j)))) : RvP K (rI0 fun i j => .bl (g i j)) (.val (.int i)) (.val (.int j)) P := fun w wx x y e r1 r2 Q q => by
  cases r1; cases r2
  exact ⟨i, j, rfl, rfl, q _ _ wx wx.rfl' p (.bl _)⟩
theorem rv_i {C : Int → Int → Prop} {g : Int → Int → Int} {i j : Int} (c : C i j) (p : P (.val (.int (g i j)))) : RvP K (rI C fun i j => .int (g i j)) (.val (.int i)) (.val (.int j)) P := fun w wx x y e r1 r2 Q q => by
  cases r1; cases r2
  exact ⟨i, j, rfl, rfl, c, q _ _ wx wx.rfl' p (.int _)⟩
theorem rv_orL {r r' : R2} {s t : Sl} (h : RvP K r s t P) : RvP K (fun x y H Q => r x y H Q ∨ r' x y H Q) s t P := fun w wx x y e r1 r2 Q q => .inl (h w wx x y e r1 r2 Q q)
theorem rv_orR {r r' : R2} {s t : Sl} (h : RvP K r' s t P) : RvP K (fun x y H Q => r x y H Q ∨ r' x y H Q) s t P := fun w wx x y e r1 r2 Q q => .inr (h w wx x y e r1 r2 Q q)
theorem ru_neg {i : Int} (p : P (.val (.int (-i)))) : RuP K (rU fun i => .int (-i)) (.val (.int i)) P := fun w wx x e r1 Q q => by
  cases r1
  exact ⟨i, rfl, q _ _ wx wx.rfl' p (.int _)⟩
/-! ### equality -/
mutual
def toPy : D → PyData
  | .non => .none | .bl b => .bool b | .int i => .int i | .str x => .str x
  | .lst ds => .list (toPys ds) | .tup ds => .tuple (toPys ds) | .obj _ _ => .none | .ref _ => .none | .ty _ => .none | .kt _ => .none | .dK _ => .none | .dT _ => .none | .exc _ _ _ => .none
def toPys : List D → List PyData
  | [] => []
  | d :: r => toPy d :: toPys r
end
/-- plain data without bools, at most n deep -/
inductive Pl : Nat → D → Prop
  | non (n : Nat) : Pl n .non
  | int (n : Nat) (i : Int) : Pl n (.int i)
  | str (n : Nat) (x : Str) : PySem.PyData.strOk x = true → Pl n (.str x)
  | lst (n : Nat) (ds : List D) : (∀ d ∈ ds, Pl n d) → Pl (n + 1) (.lst ds)
  | tup (n : Nat) (ds : List D) : (∀ d ∈ ds, Pl n d) → Pl (n + 1) (.tup ds)
theorem toPys_map (ds : List D) : toPys ds = ds.map toPy := by
  induction ds with
  | nil => rfl
  | cons d r ih => simp [toPys, ih]

mutual
theorem Pl.dp {B H : Hp} (e : Same B H) : ∀ {n : Nat} {d : D} {v : V}, Pl n d → Dr K B d v → Dp K H v (toPy d)
  | _, _, _, .non n, h => by cases h; exact .non
  | _, _, _, .int n i, h => by cases h; exact .int i
  | _, _, _, .str n x _, h => by cases h; exact .str x
  | _, _, _, .lst n ds q, h => by cases h with | lst h1 r => exact .lst (.inl (.inl (e _ _ h1))) (Pl.dps e ds q r)
  | _, _, _, .tup n ds q, h => by cases h with | tup h1 r => exact .tup (sameT e h1) (Pl.dps e ds q r)
theorem Pl.dps {B H : Hp} (e : Same B H) : ∀ {n : Nat} (ds : List D) {vs : List V}, (∀ d ∈ ds, Pl n d) → DrA K B ds vs → DpAll K H vs (toPys ds)
  | _, [], _, _, h => by cases h; exact .nil
  | _, d :: r, _, q, h => by cases h with | cons h1 t => exact .cons (Pl.dp e (q d (by simp)) h1) (Pl.dps e r (fun x hx => q x (by simp [hx])) t)
end
mutual
theorem Pl.lay : ∀ {n : Nat} {d : D}, Pl n d → (toPy d).canLay0 = true
  | _, _, .non n => rfl
  | _, _, .int n i => rfl
  | _, _, .str n x h => h
  | _, _, .lst n ds q => Pl.lays ds q
  | _, _, .tup n ds q => Pl.lays ds q
theorem Pl.lays : ∀ {n : Nat} (ds : List D), (∀ d ∈ ds, Pl n d) → PyData.canLayAll0 (toPys ds) = true
  | _, [], _ => rfl
  | _, d :: r, q => by
    show ((toPy d).canLay0 && PyData.canLayAll0 (toPys r)) = true
    rw [Pl.lay (q d (by simp)), Pl.lays r (fun x hx => q x (by simp [hx]))]
    rfl
end
mutual
theorem Pl.dep : ∀ {n : Nat} {d : D}, Pl n d → (toPy d).depth ≤ n
  | _, _, .non n => Nat.zero_le _
  | _, _, .int n i => Nat.zero_le _
  | _, _, .str n x h => Nat.zero_le _
  | _, _, .lst n ds q => Nat.succ_le_succ (Pl.deps ds q)
  | _, _, .tup n ds q => Nat.succ_le_succ (Pl.deps ds q)
theorem Pl.deps : ∀ {n : Nat} (ds : List D), (∀ d ∈ ds, Pl n d) → PyData.depthAll (toPys ds) ≤ n
  | _, [], _ => Nat.zero_le _
  | _, d :: r, q => by
    show max (toPy d).depth (PyData.depthAll (toPys r)) ≤ _
    exact Nat.max_le.mpr ⟨Pl.dep (q d (by simp)), Pl.deps r (fun x hx => q x (by simp [hx]))⟩
end
theorem Pl.shaped {n : Nat} {d : D} (h : Pl n d) (hn : n ≤ 64) : SeqAt.shaped (toPy d) = true := by
  unfold SeqAt.shaped
  rw [h.lay, decide_eq_true (Nat.le_trans h.dep hn)]
  rfl
/-- Python's == on plain data -/
def eqD (d e : D) : Bool := PyData.eqv (toPy d) (toPy e)
mutual
theorem eqD_iff : ∀ {n m : Nat} {d e : D}, Pl n d → Pl m e → (eqD d e = true ↔ d = e)
  | _, _, _, _, .non n, h => by cases h <;> simp [eqD, toPy, PyData.eqv]
  | _, _, _, _, .int n i, h => by cases h <;> simp [eqD, toPy, PyData.eqv]
  | _, _, _, _, .str n x _, h => by cases h <;> simp [eqD, toPy, PyData.eqv]
  | _, _, _, _, .lst n ds q, h => by
    cases h with
    | lst m es q' =>
      have := eqDs_iff ds es q q'
      simp only [eqD, toPy, PyData.eqv, D.lst.injEq]
      exact this
    | _ => simp [eqD, toPy, PyData.eqv]
  | _, _, _, _, .tup n ds q, h => by
    cases h with
    | tup m es q' =>
      have := eqDs_iff ds es q q'
      simp only [eqD, toPy, PyData.eqv, D.tup.injEq]
      exact this
    | _ => simp [eqD, toPy, PyData.eqv]
theorem eqDs_iff : ∀ {n m : Nat} (ds es : List D), (∀ d ∈ ds, Pl n d) → (∀ d ∈ es, Pl m d) → (PyData.eqvAll (toPys ds) (toPys es) = true ↔ ds = es)
  | _, _, [], [], _, _ => by simp [toPys, PyData.eqvAll]
  | _, _, [], e :: es, _, _ => by simp [toPys, PyData.eqvAll]
  | _, _, d :: ds, [], _, _ => by simp [toPys, PyData.eqvAll]
  | _, _, d :: ds, e :: es, q, q' => by
    have h1 := eqD_iff (q d (by simp)) (q' e (by simp))
    have h2 := eqDs_iff ds es (fun x hx => q x (by simp [hx])) (fun x hx => q' x (by simp [hx]))
    simp only [toPys, PyData.eqvAll, Bool.and_eq_true, List.cons.injEq]
    exact and_congr h1 h2
end
/-- data that is compared -/
def ToD : Sl → D → Prop
  | .val d, e => e = d
  | .own t, e => ∃ ds, t = oL ds ∧ e = .lst ds
  | .bor ds, e => e = .lst ds
  | .brt t, e => ∃ ds, t = oL ds ∧ e = .lst ds
  | _, _ => False
theorem ToD.dp {s : Sl} {d : D} {v : V} {n : Nat} (t : ToD s d) (h : SlN K w w' s v) (p : Pl n d) : Dp K w'.H v (toPy d) := by
  cases s with
  | un => cases t
  | scr ds => cases t
  | val e => cases t; exact p.dp w'.sub h
  | bor ds =>
    cases t
    obtain ⟨q, xs, rfl, h1, h2⟩ := h
    cases p with | lst n _ hq => exact .lst (.inl (.inl h1)) (Pl.dps w'.sub ds hq h2)
  | io _ => cases t
  | brt od =>
    obtain ⟨ds, rfl, rfl⟩ := t
    obtain ⟨fp, hh⟩ := h
    obtain ⟨q, xs, rfl, _, h1, r⟩ := hh.oL_inv
    cases p with | lst n _ hq => exact .lst (.inl (.inl h1)) (Pl.dps w'.sub ds hq r)
  | own od =>
    obtain ⟨ds, rfl, rfl⟩ := t
    obtain ⟨fp, hh, _⟩ := h
    obtain ⟨q, xs, rfl, _, h1, r⟩ := hh.oL_inv
    cases p with | lst n _ hq => exact .lst (.inl (.inl h1)) (Pl.dps w'.sub ds hq r)
theorem rv_eqD {s t : Sl} {d e : D} {n m : Nat} (hs : ToD s d) (ht : ToD t e) (pd : Pl n d) (pe : Pl m e) (hn : n ≤ 64) (hm : m ≤ 64) (p : P (.val (.bl (eqD d e)))) : RvP K (rEqD K) s t P := fun w wx x y _ r1 r2 Q q =>
  ⟨toPy d, toPy e, hs.dp r1 pd, ht.dp r2 pe, pd.shaped hn, pe.shaped hm, q _ _ wx wx.rfl' p (.bl _)⟩
theorem rv_neD {s t : Sl} {d e : D} {n m : Nat} (hs : ToD s d) (ht : ToD t e) (pd : Pl n d) (pe : Pl m e) (hn : n ≤ 64) (hm : m ≤ 64) (p : P (.val (.bl (!eqD d e)))) : RvP K (rNeD K) s t P := fun w wx x y _ r1 r2 Q q =>
  ⟨toPy d, toPy e, hs.dp r1 pd, ht.dp r2 pe, pd.shaped hn, pe.shaped hm, q _ _ wx wx.rfl' p (.bl _)⟩
theorem rv_eqI {i j : Int} (p : P (.val (.bl (decide (i = j))))) : RvP K rEq (.val (.int i)) (.val (.int j)) P := fun w wx x y _ r1 r2 Q q => by
  cases r1; cases r2
  refine ⟨rfl, ?_⟩
  have e : decide (V.int i = V.int j) = decide (i = j) := by simp
  rw [e]; exact q _ _ wx wx.rfl' p (.bl _)
theorem rv_neI {i j : Int} (p : P (.val (.bl (!decide (i = j))))) : RvP K rNe (.val (.int i)) (.val (.int j)) P := fun w wx x y _ r1 r2 Q q => by
  cases r1; cases r2
  refine ⟨rfl, ?_⟩
  have e : decide (V.int i = V.int j) = decide (i = j) := by simp
  rw [e]; exact q _ _ wx wx.rfl' p (.bl _)
theorem rv_eqS {i j : Str} (p : P (.val (.bl (decide (i = j))))) : RvP K rEq (.val (.str i)) (.val (.str j)) P := fun w wx x y _ r1 r2 Q q => by
  cases r1; cases r2
  refine ⟨rfl, ?_⟩
  have e : decide (V.str i = V.str j) = decide (i = j) := by simp
  rw [e]; exact q _ _ wx wx.rfl' p (.bl _)
theorem rv_neS {i j : Str} (p : P (.val (.bl (!decide (i = j))))) : RvP K rNe (.val (.str i)) (.val (.str j)) P := fun w wx x y _ r1 r2 Q q => by
  cases r1; cases r2
  refine ⟨rfl, ?_⟩
  have e : decide (V.str i = V.str j) = decide (i = j) := by simp
  rw [e]; exact q _ _ wx wx.rfl' p (.bl _)
/-- is None -/
def isNon : D → Bool
  | .non => true
  | _ => false
theorem isNon_ok {B : Hp} {d : D} {v : V} (h : Dr K B d v) : decide (v = .non) = isNon d := by cases h <;> simp [isNon]
def rIsN0 : R2 := fun x y H Q => y = .non ∧ Q (.bl (decide (x = .non))) H
def rNotN0 : R2 := fun x y H Q => y = .non ∧ Q (.bl (!decide (x = .non))) H
theorem rv_isN {d : D} (p : P (.val (.bl (isNon d)))) : RvP K rIsN0 (.val d) (.val .non) P := fun w wx x y _ r1 r2 Q q => by
  cases r2
  refine ⟨rfl, ?_⟩
  rw [isNon_ok r1]; exact q _ _ wx wx.rfl' p (.bl _)
theorem rv_notN {d : D} (p : P (.val (.bl (!isNon d)))) : RvP K rNotN0 (.val d) (.val .non) P := fun w wx x y _ r1 r2 Q q => by
  cases r2
  refine ⟨rfl, ?_⟩
  rw [isNon_ok r1]; exact q _ _ wx wx.rfl' p (.bl _)
/-! ### sequences -/
/-- what is read as a list -/
inductive LsS : Sl → List D → Prop
  | val {ds : List D} : LsS (.val (.lst ds)) ds
  | bor {ds : List D} : LsS (.bor ds) ds
  | scr {ds : List D} : LsS (.scr ds) ds
  | own {ds : List D} : LsS (.own (oL ds)) ds
  | brt {ds : List D} : LsS (.brt (oL ds)) ds
theorem LsS.ok {s : Sl} {ds : List D} {v : V} (l : LsS s ds) (h : SlN K w w' s v) : ∃ p xs, v = .ref p ∧ SqL K w'.H p xs ∧ DrA K w'.B ds xs := by
  cases l with
  | val => cases h with | lst h1 r => exact ⟨_, _, rfl, .inl (.inl (w'.sub _ _ h1)), r⟩
  | bor => obtain ⟨p, xs, rfl, h1, h2⟩ := h; exact ⟨p, xs, rfl, .inl (.inl h1), h2⟩
  | scr => obtain ⟨p, xs, rfl, h1, h2⟩ := h; exact ⟨p, xs, rfl, h1, h2⟩
  | own => obtain ⟨fp, h, _⟩ := h; obtain ⟨p, xs, rfl, _, h1, r⟩ := h.oL_inv; exact ⟨p, _, rfl, .inl (.inl h1), r⟩
  | brt => obtain ⟨fp, h⟩ := h; obtain ⟨p, xs, rfl, _, h1, r⟩ := h.oL_inv; exact ⟨p, _, rfl, .inl (.inl h1), r⟩
theorem atI_D {B : Hp} {ds : List D} {xs : List V} {i : Int} {d : D} (r : DrA K B ds xs) (e : atI ds i = some d) : ∃ v, atI xs i = some v ∧ Dr K B d v := by
  unfold atI at e ⊢
  rw [← r.len]
  cases h : ixN ds.length i with
  | none => rw [h] at e; cases e
  | some j => rw [h] at e; exact r.get e
theorem rv_ixL {s : Sl} {ds : List D} {i : Int} {d : D} (l : LsS s ds) (e : atI ds i = some d) (p : P (.val d)) : RvP K (rIxL K) s (.val (.int i)) P := fun w wx x y _ r1 r2 Q q => by
  cases r2
  obtain ⟨a, xs, rfl, h1, h2⟩ := l.ok r1
  obtain ⟨v, h3, h4⟩ := atI_D h2 e
  exact ⟨a, xs, i, v, rfl, rfl, h1, h3, q _ v wx wx.rfl' p h4⟩
theorem rv_ixT {ds : List D} {i : Int} {d : D} (e : atI ds i = some d) (p : P (.val d)) : RvP K (rIxT K) (.val (.tup ds)) (.val (.int i)) P := fun w wx x y _ r1 r2 Q q => by
  cases r2
  cases r1 with
  | tup h1 h2 =>
    obtain ⟨v, h3, h4⟩ := atI_D h2 e
    exact ⟨_, _, i, v, rfl, rfl, sameT wx.sub h1, h3, q _ v wx wx.rfl' p h4⟩
theorem rv_ixS {z : Str} {i : Int} {c : Nat} (hz : z.length ≤ 1000000) (e : atI z.cps.toList i = some c) (p : P (.val (.str ⟨#[c]⟩))) : RvP K rIxS (.val (.str z)) (.val (.int i)) P := fun w wx x y _ r1 r2 Q q => by
  cases r1; cases r2
  exact ⟨z, i, c, rfl, rfl, Nat.le_trans hz (by decide), e, q _ _ wx wx.rfl' p (.str _)⟩
theorem sixL {s : Sl} {ds : List D} {i : Int} {d : D} (l : LsS s ds) (e : atI ds i = some d) (p : P (.val d)) : RvP K (rIx K) s (.val (.int i)) P := rv_orL (rv_ixL l e p)
theorem sixT {ds : List D} {i : Int} {d : D} (e : atI ds i = some d) (p : P (.val d)) : RvP K (rIx K) (.val (.tup ds)) (.val (.int i)) P := rv_orR (rv_orL (rv_ixT e p))
theorem sixS {z : Str} {i : Int} {c : Nat} (hz : z.length ≤ 1000000) (e : atI z.cps.toList i = some c) (p : P (.val (.str ⟨#[c]⟩))) : RvP K (rIx K) (.val (.str z)) (.val (.int i)) P := rv_orR (rv_orR (rv_ixS hz e p))
def rLenG (K : PySem.W.Frag) : List V → Hp → VK → Prop := fun xs H Q => ∃ x n, xs = [x] ∧ LenV K x H n ∧ Q (.int n) H
theorem ra_lenL {s : Sl} {ds : List D} (l : LsS s ds) (p : P (.val (.int ds.length))) : RaP K (rLenG K) [s] P := fun w wx vs _ r Q q => by
  cases r with
  | cons r t =>
    cases t
    obtain ⟨a, xs, rfl, h1, h2⟩ := l.ok r
    exact ⟨.ref a, xs.length, rfl, .inl ⟨xs, h1, rfl⟩, (by rw [← h2.len]; exact q _ _ wx wx.rfl' p (.int _))⟩
theorem ra_lenT {ds : List D} (p : P (.val (.int ds.length))) : RaP K (rLenG K) [.val (.tup ds)] P := fun w wx vs _ r Q q => by
  cases r with
  | cons r t =>
    cases t
    cases r with
    | tup h1 h2 => exact ⟨_, _, rfl, .inr ⟨_, sameT wx.sub h1, rfl⟩, (by rw [← h2.len]; exact q _ _ wx wx.rfl' p (.int _))⟩
theorem ra_lenS {z : Str} (hz : z.length ≤ 1000000) (p : P (.val (.int z.length))) : RaP K (rLenG K) [.val (.str z)] P := fun w wx vs _ r Q q => by
  cases r with
  | cons r t =>
    cases t
    cases r
    exact ⟨_, _, rfl, ⟨Nat.le_trans hz (by decide), rfl⟩, q _ _ wx wx.rfl' p (.int _)⟩
/-! ### built-ins -/
theorem ra_abs {i : Int} (p : P (.val (.int (if i < 0 then -i else i)))) : RaP K (fun xs H Q => ∃ i, xs = [.int i] ∧ Q (.int (if i < 0 then -i else i)) H) [.val (.int i)] P := fun w wx vs _ r Q q => by
  cases r with | cons r t => cases t; cases r; exact ⟨i, rfl, q _ _ wx wx.rfl' p (.int _)⟩
def rInt1 : List V → Hp → VK → Prop := fun xs H Q => (∃ i, xs = [.int i] ∧ Q (.int i) H) ∨ ∃ k, xs = [.bl k] ∧ Q (.int (if k then 1 else 0)) H
theorem ra_int {i : Int} (p : P (.val (.int i))) : RaP K rInt1 [.val (.int i)] P := fun w wx vs _ r Q q => by
  cases r with | cons r t => cases t; cases r; exact .inl ⟨i, rfl, q _ _ wx wx.rfl' p (.int _)⟩
theorem ra_intB {k : Bool} (p : P (.val (.int (if k then 1 else 0)))) : RaP K rInt1 [.val (.bl k)] P := fun w wx vs _ r Q q => by
  cases r with | cons r t => cases t; cases r; exact .inr ⟨k, rfl, q _ _ wx wx.rfl' p (.int _)⟩
theorem ra_max {i j : Int} (p : P (.val (.int (if j > i then j else i)))) : RaP K (fun xs H Q => ∃ i j, xs = [.int i, .int j] ∧ Q (.int (if j > i then j else i)) H) [.val (.int i), .val (.int j)] P := fun w wx vs _ r Q q => by
  cases r with | cons r t => cases t with | cons r2 t => cases t; cases r; cases r2; exact ⟨i, j, rfl, q _ _ wx wx.rfl' p (.int _)⟩
theorem ra_min {i j : Int} (p : P (.val (.int (if j < i then j else i)))) : RaP K (fun xs H Q => ∃ i j, xs = [.int i, .int j] ∧ Q (.int (if j < i then j else i)) H) [.val (.int i), .val (.int j)] P := fun w wx vs _ r Q q => by
  cases r with | cons r t => cases t with | cons r2 t => cases t; cases r; cases r2; exact ⟨i, j, rfl, q _ _ wx wx.rfl' p (.int _)⟩
theorem ra_sum {s : Sl} {ns : List Int} (l : LsS s (ns.map D.int)) (p : P (.val (.int ns.sum))) : RaP K (rSum K) [s] P := fun w wx vs _ r Q q => by
  cases r with
  | cons r t =>
    cases t
    obtain ⟨a, xs, rfl, h1, h2⟩ := l.ok r
    rw [h2.ints_inv] at h1
    exact ⟨a, ns, rfl, h1, q _ _ wx wx.rfl' p (.int _)⟩
def rListG (K : PySem.W.Frag) : List V → Hp → VK → Prop := fun xs H Q => ∃ p ys, xs = [.ref p] ∧ (SqL K H p ys ∨ SqT K H p ys) ∧ ∀ l, H l = none → Q (.ref l) (upd H l (.lst ys))
theorem ra_listL {s : Sl} {ds : List D} (l : LsS s ds) (p : P (.own (oL ds))) : RaP K (rListG K) [s] P := fun w wx vs e r Q q => by
  cases r with
  | cons r t =>
    cases t
    obtain ⟨a, xs, rfl, h1, h2⟩ := l.ok r
    exact ⟨a, xs, rfl, .inl h1, fun l hl => q _ _ (wx.lay l _ hl) (Wd.le_lay hl) p (own_new e hl h2)⟩
theorem ra_listT {ds : List D} (p : P (.own (oL ds))) : RaP K (rListG K) [.val (.tup ds)] P := fun w wx vs e r Q q => by
  cases r with
  | cons r t =>
    cases t
    cases r with
    | tup h1 h2 => exact ⟨_, _, rfl, .inr (sameT wx.sub h1), fun l hl => q _ _ (wx.lay l _ hl) (Wd.le_lay hl) p (own_new e hl h2)⟩
def rTupG (K : PySem.W.Frag) : List V → Hp → VK → Prop := fun xs H Q => ∃ p ys, xs = [.ref p] ∧ ((SqL K H p ys ∧ ∀ l, H l = none → Q (.ref l) (upd H l (.tup ys))) ∨ (SqT K H p ys ∧ Q (.ref p) H))
theorem ra_tupL {s : Sl} {ds : List D} (l : LsS s ds) (p : P (.val (.tup ds))) : RaP K (rTupG K) [s] P := fun w wx vs e r Q q => by
  cases r with
  | cons r t =>
    cases t
    obtain ⟨a, xs, rfl, h1, h2⟩ := l.ok r
    exact ⟨a, xs, rfl, .inl ⟨h1, fun l hl => q _ _ (wx.new l _ hl) (Wd.le_new hl) p (Dr.tup (.inl (.inl upd_same)) (h2.mono (Wd.le_new hl).b))⟩⟩
theorem ra_tupT {ds : List D} (p : P (.val (.tup ds))) : RaP K (rTupG K) [.val (.tup ds)] P := fun w wx vs e r Q q => by
  cases r with
  | cons r t =>
    cases t
    cases r with
    | tup h1 h2 => exact ⟨_, _, rfl, .inr ⟨sameT wx.sub h1, q _ _ wx wx.rfl' p (.tup h1 h2)⟩⟩
theorem ra_sortedI {s : Sl} {ns : List Int} (l : LsS s (ns.map D.int)) (p : ∀ ms : List Int, ms.Perm ns → ms.Pairwise (· ≤ ·) → P (.own (oL (ms.map D.int)))) : RaP K (rSortedI K) [s] P := fun w wx vs e r Q q => by
  cases r with
  | cons r t =>
    cases t
    obtain ⟨a, xs, rfl, h1, h2⟩ := l.ok r
    rw [h2.ints_inv] at h1
    exact ⟨a, ns, rfl, h1, fun ms l hp hs hl => q _ _ (wx.lay l _ hl) (Wd.le_lay hl) (p ms hp hs) (own_new e hl DrA.ints)⟩
/-! ### slices -/
def cutD (ds : List D) (lo hi : Option Int) : List D := (ds.drop (HT.sIx ds.length 0 lo)).take (HT.sIx ds.length ds.length hi - HT.sIx ds.length 0 lo)
theorem cut_ok {B : Hp} {ds : List D} {xs : List V} {lo hi : Option Int} (r : DrA K B ds xs) : DrA K B (cutD ds lo hi) (cutV xs lo hi) := by
  unfold cutD cutV
  rw [← r.len]
  exact (r.drop _).take _
theorem evo_none {Po : Option Int → Prop} (p : Po none) : EvO K tNoPart env Po := fun en w σ R Q q => q none w w.rfl' p
theorem evo_some {Po : Option Int → Prop} {te : TE} (h : EvE K te env fun s => ∃ i, s = .val (.int i) ∧ Po (some i)) : EvO K (tPart te) env Po := fun en w σ R Q q =>
  h en w σ R _ fun s v w1 e1 h1 r1 => by
    obtain ⟨i, rfl, p⟩ := h1
    cases r1
    exact ⟨i, rfl, q _ w1 e1 p⟩
def RsP (K : PySem.W.Frag) (r : V → Option Int → Option Int → Hp → VK → Prop) (s : Sl) (lo hi : Option Int) (P : Sl → Prop) : Prop := ∀ (w wx : Wd) (x : V), w.le wx → SlN K w wx s x → ∀ Q : VK, (∀ s v w', wx.le w' → P s → SlN K w w' s v → Q v w'.H) → r x lo hi wx.H Q
theorem ev_sl {r : V → Option Int → Option Int → Hp → VK → Prop} {te : TE} {tl th : TO} (h : EvE K te env fun s => EvO K tl env fun lo => EvO K th env fun hi => RsP K r s lo hi P) : EvE K (tSl r te tl th) env P := fun en w σ R Q q =>
  h en w σ R _ fun s v w1 e1 h1 r1 => h1 en w1 σ (R.grow e1) _ fun lo w2 e2 h2 => h2 en w2 σ (R.grow (e1.trans e2)) _ fun hi w3 e3 h3 =>
    h3 w w3 v ((e1.trans e2).trans e3) (r1.grow (e2.trans e3)) Q fun s v w' e p r => q s v w' (((e1.trans e2).trans e3).trans e) p r
theorem rs_list {s : Sl} {ds : List D} {lo hi : Option Int} (l : LsS s ds) (p : P (.own (oL (cutD ds lo hi)))) : RsP K (rSlL K) s lo hi P := fun w wx x e r Q q => by
  obtain ⟨a, xs, rfl, h1, h2⟩ := l.ok r
  exact ⟨a, xs, rfl, h1, fun l hl => q _ _ (wx.lay l _ hl) (Wd.le_lay hl) p (own_new e hl (cut_ok h2))⟩
theorem rs_str {z : Str} {lo hi : Option Int} (hz : z.length ≤ 1000000) (p : P (.val (.str (cutS z lo hi)))) : RsP K rSlS (.val (.str z)) lo hi P := fun w wx x e r Q q => by
  cases r
  exact ⟨z, rfl, Nat.le_trans hz (by decide), q _ _ wx wx.rfl' p (.str _)⟩
/-- a child that is read -/
def chS : OT → Sl
  | .imm d => .val d
  | t => .brt t
theorem chS_ok {t : OT} {v : V} {fp : List Addr} (h : TR K w'.B w'.H t v fp) : SlN K w w' (chS t) v := by
  cases h with
  | imm h => exact h
  | lst a b => exact ⟨_, .lst a b⟩
  | tup a b => exact ⟨_, .tup a b⟩
  | dK a b c => exact ⟨_, .dK a b c⟩
  | dT a b c => exact ⟨_, .dT a b c⟩
  | ins a b c => exact ⟨_, .ins a b c⟩
inductive TlS : Sl → List OT → Prop
  | brt {xs : List OT} : TlS (.brt (.lst xs)) xs
  | own {xs : List OT} : TlS (.own (.lst xs)) xs
inductive TtS : Sl → List OT → Prop
  | brt {xs : List OT} : TtS (.brt (.tup xs)) xs
  | own {xs : List OT} : TtS (.own (.tup xs)) xs
theorem sixTl {s : Sl} {xs : List OT} {i : Int} {c : OT} (l : TlS s xs) (e : atI xs i = some c) (p : P (chS c)) : RvP K (rIx K) s (.val (.int i)) P := rv_orL fun w wx x y _ r1 r2 Q q => by
  cases r2
  have : ∃ f', TR K wx.B wx.H (.lst xs) x f' := by
    cases l with
    | brt => exact r1
    | own => obtain ⟨f, r, _⟩ := r1; exact ⟨f, r⟩
  obtain ⟨f', r⟩ := this
  cases r with
  | @lst pp _ vs fp hp rs =>
    unfold atI at e
    cases h : ixN xs.length i with
    | none => rw [h] at e; cases e
    | some j =>
      rw [h] at e
      obtain ⟨u, _, _, hu, _, tr, _⟩ := rs.focus e
      refine ⟨pp, vs, i, u, rfl, rfl, .inl (.inl hp), ?_, q _ u wx wx.rfl' p (chS_ok tr)⟩
      unfold atI; rw [← rs.len, h]; exact hu
theorem sixTt {s : Sl} {xs : List OT} {i : Int} {c : OT} (l : TtS s xs) (e : atI xs i = some c) (p : P (chS c)) : RvP K (rIx K) s (.val (.int i)) P := rv_orR (rv_orL fun w wx x y _ r1 r2 Q q => by
  cases r2
  have : ∃ f', TR K wx.B wx.H (.tup xs) x f' := by
    cases l with
    | brt => exact r1
    | own => obtain ⟨f, r, _⟩ := r1; exact ⟨f, r⟩
  obtain ⟨f', r⟩ := this
  cases r with
  | @tup pp _ vs fp hp rs =>
    unfold atI at e
    cases h : ixN xs.length i with
    | none => rw [h] at e; cases e
    | some j =>
      rw [h] at e
      obtain ⟨u, _, _, hu, _, tr, _⟩ := rs.focus e
      refine ⟨pp, vs, i, u, rfl, rfl, .inl (.inl hp), ?_, q _ u wx wx.rfl' p (chS_ok tr)⟩
      unfold atI; rw [← rs.len, h]; exact hu)
theorem ra_lenTt {s : Sl} {xs : List OT} (l : TtS s xs) (p : P (.val (.int xs.length))) : RaP K (rLenG K) [s] P := fun w wx vs _ r Q q => by
  cases r with
  | cons r t =>
    cases t
    rename_i v0
    have : ∃ f', TR K wx.B wx.H (.tup xs) v0 f' := by
      cases l with
      | brt => exact r
      | own => obtain ⟨f, r, _⟩ := r; exact ⟨f, r⟩
    obtain ⟨f', r⟩ := this
    cases r with
    | @tup pp _ vs fp hp rs => exact ⟨_, _, rfl, .inr ⟨vs, .inl (.inl hp), rfl⟩, (by rw [← rs.len]; exact q _ _ wx wx.rfl' p (.int _))⟩
end
end DL

set_option Elab.async false
set_option linter.all false
set_option maxRecDepth 100000
set_option autoImplicit false
namespace DL
open PySem L2
/-! ### statements -/
structure Post where
  nx : List Sl → Prop
  rt : Sl → List Sl → Prop
  bk : List Sl → Prop := fun _ => False
  ct : List Sl → Prop := fun _ => False
def Nx (K : PySem.W.Frag) (en : En) (w : Wd) (N : List Sl → Prop) (d : TSt → Hp → Prop) : Prop := ∀ (w' : Wd) σ' env', Same w.B w'.B → Rel K en w' env' σ' → N env' → d σ' w'.H
def Rt (K : PySem.W.Frag) (en : En) (w : Wd) (R : Sl → List Sl → Prop) (d : VK) : Prop := ∀ s v (w' : Wd) σ' env', StS s → Same w.B w'.B → σ'.length = env'.length → en.args.length ≤ env'.length → Rel K en w' (env' ++ [s]) (σ' ++ [some v]) → R s env' → d v w'.H
def Wp (K : PySem.W.Frag) (t : TS) (env : List Sl) (P : Post) : Prop := ∀ (en : En) (w : Wd) (σ : TSt), Rel K en w env σ → ∀ D : Ends, Nx K en w P.nx D.nx → Nx K en w P.bk D.bk → Nx K en w P.ct D.ct → Rt K en w P.rt D.rt → t D σ w.H
/-- the posts behind a statement, a cut, a turn: short terms, so that goals stay small -/
abbrev Post.sq (K : PySem.W.Frag) (u : TS) (P : Post) : Post := { P with nx := fun e => Wp K u e P }
abbrev Post.cut (P : Post) (M : List Sl → Prop) : Post := { P with nx := M }
abbrev Post.loop (P : Post) (I : List Sl → Prop) : Post := { nx := I, ct := I, bk := P.nx, rt := P.rt }
section
variable {K : PySem.W.Frag} {env : List Sl} {P P' : Post} {en : En} {w w' w'' : Wd} {t u : TS} {te ta tb : TE} {tt : TT} {N : List Sl → Prop} {d : TSt → Hp → Prop}
theorem Nx.back (h : Nx K en w N d) (e : Same w.B w'.B) : Nx K en w' N d := fun w2 σ' env' s R n => h w2 σ' env' (e.trans s) R n
theorem Rt.back {R : Sl → List Sl → Prop} {d : VK} (h : Rt K en w R d) (e : Same w.B w'.B) : Rt K en w' R d := fun s v w2 σ' env' st sb hl ha R' n => h s v w2 σ' env' st (e.trans sb) hl ha R' n
theorem wp_seq (h : Wp K t env (Post.sq K u P)) : Wp K (tSeq t u) env P := fun en w σ R D hn hb hc hr =>
  h en w σ R { D with nx := u D } (fun w' σ' env' s R' n => n en w' σ' R' D (hn.back s) (hb.back s) (hc.back s) (hr.back s)) hb hc hr
theorem wp_next (p : P.nx env) : Wp K tNext env P := fun en w σ R D hn _ _ _ => hn w σ env (Same.refl _) R p
theorem wp_break (p : P.bk env) : Wp K tBreak env P := fun en w σ R D _ hb _ _ => hb w σ env (Same.refl _) R p
theorem wp_cont (p : P.ct env) : Wp K tCont env P := fun en w σ R D _ _ hc _ => hc w σ env (Same.refl _) R p
theorem wp_if (h : EvT K tt env fun b => (b = true → Wp K t env P) ∧ (b = false → Wp K u env P)) : Wp K (tIfS tt t u) env P := fun en w σ R D hn hb hc hr =>
  h en w σ R _ fun b w1 e1 h1 => by
    cases b with
    | true => exact h1.1 rfl en w1 σ (R.grow e1) D (hn.back e1.b) (hb.back e1.b) (hc.back e1.b) (hr.back e1.b)
    | false => exact h1.2 rfl en w1 σ (R.grow e1) D (hn.back e1.b) (hb.back e1.b) (hc.back e1.b) (hr.back e1.b)
theorem wp_asg {i : Nat} (h : EvE K te env fun s => StS s ∧ P.nx (env.set i s)) : Wp K (tAsg te (gName i)) env P := fun en w σ R D hn _ _ _ =>
  h en w σ R _ fun s v w1 e1 h1 r1 => by
    obtain ⟨st, p⟩ := h1
    cases st with
    | val d => exact hn w1 _ _ e1.b ((R.grow e1).setVal r1) p
    | own o => exact hn w1 _ _ e1.b (R.setOwn e1 r1) p
/-- a result beside the slots -/
theorem Rel.push {σ : TSt} {s : Sl} {v : V} (R : Rel K en w env σ) (e : w.le w') (h : SlN K w w' s v) (st : StS s) : Rel K en w' (env ++ [s]) (σ ++ [some v]) := by
  obtain ⟨F, R⟩ := R
  have main : ∀ fp, SlS K en w' env.length s (some v) fp → (∀ p ∈ fp, w.H p = none) → Rel K en w' (env ++ [s]) (σ ++ [some v]) := fun fp hs hf => by
    refine ⟨fun j => if j = env.length then fp else F j, R.le.trans e, by simp [R.len], (by have := R.an; simp; omega), fun j s' o a b => ?_, fun j k p hj hk a b => ?_⟩
    · by_cases hj : j < env.length
      · rw [List.getElem?_append_left hj] at a
        rw [List.getElem?_append_left (by rw [← R.len]; exact hj)] at b
        simp only [Nat.ne_of_lt hj, if_false]
        exact (R.sl j s' o a b).grow e
      · have : j = env.length := by
          have := (List.getElem?_eq_some_iff.mp a).1
          simp at this; omega
        subst this
        simp at a
        rw [R.len] at b
        simp at b
        subst a b
        simpa using hs
    · simp at hj hk
      have old : ∀ (i : Nat) p, i < env.length → p ∈ F i → ∃ o, w.H p = some o := fun i p hi z => by
        obtain ⟨s1, o1, q1, q2⟩ := slot_at hi R.len
        exact ((R.sl i s1 o1 q1 q2).fp p z).1
      by_cases h1 : j = env.length
      · by_cases h2 : k = env.length
        · rw [h1, h2]
        · simp only [h1, if_true] at a; simp only [h2, if_false] at b
          obtain ⟨o, h3⟩ := old k p (by omega) b
          rw [hf p a] at h3; cases h3
      · by_cases h2 : k = env.length
        · simp only [h2, if_true] at b; simp only [h1, if_false] at a
          obtain ⟨o, h3⟩ := old j p (by omega) a
          rw [hf p b] at h3; cases h3
        · simp only [h1, if_false] at a; simp only [h2, if_false] at b
          exact R.ap j k p (by omega) (by omega) a b
  cases st with
  | val d => exact main [] ⟨rfl, v, rfl, h⟩ (by simp)
  | own t =>
    obtain ⟨fp, a, b, c⟩ := h
    exact main fp ⟨v, rfl, a, b, fun p z => ⟨R.le.h.free (c p z).1, (c p z).2⟩⟩ fun p z => (c p z).1
theorem wp_ret (h : EvE K te env fun s => StS s ∧ P.rt s env) : Wp K (tRet te) env P := fun en w σ R D _ _ _ hr =>
  h en w σ R _ fun s v w1 e1 h1 r1 => hr s v w1 σ env h1.1 e1.b R.len.symm R.an (R.push e1 r1 h1.1) h1.2
/-- a name of one's own is handed back -/
theorem wp_retOwn {i : Nat} {o : OT} (e : env[i]? = some (.own o)) (p : P.rt (.own o) (env.set i .un)) : Wp K (tRet (tVar i)) env P := fun en w σ R D _ _ _ hr => by
  obtain ⟨F, R⟩ := R
  obtain ⟨x, h1, v, rfl, r⟩ := R.at e
  have hi : i < env.length := (List.getElem?_eq_some_iff.mp e).1
  refine ⟨v, h1, hr (.own o) v w σ (env.set i .un) (.own o) (Same.refl _) (by simp [R.len]) (by simpa using R.an) ⟨fun j => if j = env.length then F i else if j = i then [] else F j, R.le, by simp [R.len], (by have := R.an; simp; omega), fun j s' o' a b => ?_, fun j k p hj hk a b => ?_⟩ p⟩
  · by_cases hj : j < env.length
    · rw [List.getElem?_append_left (by simpa using hj)] at a
      rw [List.getElem?_append_left (by rw [← R.len]; exact hj)] at b
      simp only [Nat.ne_of_lt hj, if_false]
      by_cases hij : j = i
      · subst hij
        rw [List.getElem?_set_self hj] at a; cases a
        simp [SlS]
      · rw [List.getElem?_set_ne (Ne.symm hij)] at a
        simp only [hij, if_false]
        exact R.sl j s' o' a b
    · have : j = env.length := by
        have := (List.getElem?_eq_some_iff.mp a).1
        simp at this; omega
      subst this
      have a' : (env.set i .un ++ [Sl.own o])[(env.set i .un).length]? = some s' := by simpa using a
      rw [List.getElem?_concat_length] at a'
      rw [R.len, List.getElem?_concat_length] at b
      cases a'; cases b
      simp only [if_true]
      exact ⟨v, rfl, r⟩
  · simp at hj hk
    have ne : i ≠ env.length := Nat.ne_of_lt hi
    by_cases h1 : j = env.length
    · by_cases h2 : k = env.length
      · rw [h1, h2]
      · simp only [h1, if_true] at a; simp only [h2, if_false] at b
        by_cases h3 : k = i
        · simp [h3] at b
        · simp only [h3, if_false] at b
          exact (h3 (R.ap k i p (by omega) hi b a)).elim
    · by_cases h2 : k = env.length
      · simp only [h2, if_true] at b; simp only [h1, if_false] at a
        by_cases h3 : j = i
        · simp [h3] at a
        · simp only [h3, if_false] at a
          exact (h3 (R.ap j i p (by omega) hi a b)).elim
      · simp only [h1, if_false] at a; simp only [h2, if_false] at b
        by_cases h3 : j = i
        · simp [h3] at a
        · by_cases h4 : k = i
          · simp [h4] at b
          · simp only [h3, if_false] at a; simp only [h4, if_false] at b
            exact R.ap j k p (by omega) (by omega) a b
/-- return (x, e), x a name of one's own -/
theorem wp_retT2 {i : Nat} {o : OT} (e : env[i]? = some (.own o)) (hnd : o.nd = true) (h : EvE K te (env.set i .un) fun s => ∃ d, s = .val d ∧ P.rt (.own (.tup [o, .imm d])) (env.set i .un)) : Wp K (tRet (tTup (tCons (tVar i) (tCons te tNil)))) env P := fun en w σ R D _ _ _ hr => by
  obtain ⟨F, R⟩ := R
  obtain ⟨x, h1, v, rfl, own⟩ := R.at e
  have hi : i < env.length := (List.getElem?_eq_some_iff.mp e).1
  refine ⟨v, h1, ?_⟩
  have Ru : Rel K en w (env.set i .un) σ := ⟨fun j => if j = i then [] else F j, R.le, by simp [R.len], by simpa using R.an, fun j s' o' a b => by
    by_cases hij : j = i
    · subst hij
      rw [List.getElem?_set_self hi] at a; cases a
      simp [SlS]
    · rw [List.getElem?_set_ne (Ne.symm hij)] at a
      simp only [hij, if_false]
      exact R.sl j s' o' a b, fun j k p hj hk a b => by
    simp at hj hk
    by_cases h3 : j = i
    · simp [h3] at a
    · by_cases h4 : k = i
      · simp [h4] at b
      · simp only [h3, if_false] at a; simp only [h4, if_false] at b
        exact R.ap j k p hj hk a b⟩
  refine h en w σ Ru _ fun s y w1 e1 p1 r1 => ?_
  obtain ⟨d, rfl, p⟩ := p1
  refine ⟨by show 2 ≤ sizeLine; decide, fun pp hp => ?_⟩
  have own1 := own.grow e1
  have nk : NoKt (.tup [v, y]) := by
    have key : ∀ {w : Wd} {fp : List Addr}, TR K w.B w.H o v fp → NoKt (.tup [v, y]) := fun tr => by
      cases tr with
      | imm => cases hnd
      | _ => exact nokt_ref
    exact key own1.1
  obtain ⟨o2, h2⟩ : ∃ o2 : HO, o2 = .tup [v, y] := ⟨_, rfl⟩
  have hpF : pp ∉ F i := fun z => by
    obtain ⟨o3, z3⟩ := own1.1.there pp z
    rw [hp] at z3; cases z3
  have le2 := Wd.le_lay (o := .tup [v, y]) hp (ho := nk)
  have tr2 : TR K (w1.lay pp (.tup [v, y]) hp nk).B (w1.lay pp (.tup [v, y]) hp nk).H (.tup [o, .imm d]) (.ref pp) (pp :: (F i ++ ([] ++ []))) :=
    .tup upd_same (.cons (own1.grow le2).1 (.cons (.imm (Dr.mono le2.b r1)) .nil))
  have own2 : Own K en.w0.H (w1.lay pp (.tup [v, y]) hp nk) (.tup [o, .imm d]) (.ref pp) (pp :: (F i ++ ([] ++ []))) := by
    refine ⟨tr2, by simpa using ⟨hpF, own1.2.1⟩, fun q z => ?_⟩
    have z : q = pp ∨ q ∈ F i := by simpa using z
    rcases z with rfl | z
    · exact ⟨(R.le.trans e1).h.free hp, (show w1.B q = none from Wd.freeB hp)⟩
    · exact (own1.grow le2).2.2 q z
  have R2 := Ru.grow (e1.trans le2)
  obtain ⟨F2, R2⟩ := R2
  refine hr (.own (.tup [o, .imm d])) (.ref pp) (w1.lay pp (.tup [v, y]) hp nk) σ (env.set i .un) (.own _) (e1.trans le2).b (by simp [R.len]) (by simpa using R.an) ⟨fun j => if j = env.length then pp :: (F i ++ ([] ++ [])) else if j = i then [] else F j, R2.le, by simp [R.len], (by have := R.an; simp; omega), fun j s' o' a b => ?_, fun j k p hj hk a b => ?_⟩ p
  · by_cases hj : j < env.length
    · rw [List.getElem?_append_left (by simpa using hj)] at a
      rw [List.getElem?_append_left (by rw [← R.len]; exact hj)] at b
      simp only [Nat.ne_of_lt hj, if_false]
      by_cases hij : j = i
      · subst hij
        rw [List.getElem?_set_self hj] at a; cases a
        simp [SlS]
      · rw [List.getElem?_set_ne (Ne.symm hij)] at a
        simp only [hij, if_false]
        exact (R.sl j s' o' a b).grow (e1.trans le2)
    · have : j = env.length := by
        have := (List.getElem?_eq_some_iff.mp a).1
        simp at this; omega
      subst this
      have a' : (env.set i .un ++ [Sl.own (.tup [o, .imm d])])[(env.set i .un).length]? = some s' := by simpa using a
      rw [List.getElem?_concat_length] at a'
      rw [R.len, List.getElem?_concat_length] at b
      cases a'; cases b
      simp only [if_true]
      exact ⟨_, rfl, own2⟩
  · simp at hj hk
    have old : ∀ (j : Nat) p, j ≠ i → j < env.length → p ∈ F j → p ∉ pp :: (F i ++ ([] ++ [])) := fun j p hji hj z z2 => by
      have z2 : p = pp ∨ p ∈ F i := by simpa using z2
      rcases z2 with rfl | z2
      · obtain ⟨s1, o1, q1, q2⟩ := slot_at hj R.len
        obtain ⟨⟨o3, q3⟩, _⟩ := (R.sl j s1 o1 q1 q2).fp p z
        rw [e1.h _ _ q3] at hp; cases hp
      · exact hji (R.ap j i p hj hi z z2)
    by_cases h1 : j = env.length
    · by_cases h2 : k = env.length
      · rw [h1, h2]
      · rw [if_pos h1] at a; rw [if_neg h2] at b
        by_cases h3 : k = i
        · rw [if_pos h3] at b; simp at b
        · rw [if_neg h3] at b
          exact (old k p h3 (by omega) b a).elim
    · by_cases h2 : k = env.length
      · rw [if_pos h2] at b; rw [if_neg h1] at a
        by_cases h3 : j = i
        · rw [if_pos h3] at a; simp at a
        · rw [if_neg h3] at a
          exact (old j p h3 (by omega) a b).elim
      · rw [if_neg h1] at a; rw [if_neg h2] at b
        by_cases h3 : j = i
        · rw [if_pos h3] at a; simp at a
        · by_cases h4 : k = i
          · rw [if_pos h4] at b; simp at b
          · rw [if_neg h3] at a; rw [if_neg h4] at b
            exact R.ap j k p (by omega) (by omega) a b
theorem wp_retN (p : P.rt (.val .non) env) : Wp K tRetN env P := fun en w σ R D _ _ _ hr => hr _ _ w σ env (.val _) (Same.refl _) R.len.symm R.an (R.push w.rfl' .non (.val _)) p
theorem wp_drop (h : EvE K te env fun _ => P.nx env) : Wp K (tDrop te) env P := fun en w σ R D hn _ _ _ =>
  h en w σ R _ fun s v w1 e1 h1 r1 => hn w1 _ _ e1.b (R.grow e1) h1
theorem wp_imp (h : Wp K t env P) (k1 : ∀ e, P.nx e → P'.nx e) (k2 : ∀ s e, P.rt s e → P'.rt s e) (k3 : ∀ e, P.bk e → P'.bk e) (k4 : ∀ e, P.ct e → P'.ct e) : Wp K t env P' := fun en w σ R D hn hb hc hr =>
  h en w σ R D (fun w' σ' e s R p => hn w' σ' e s R (k1 e p)) (fun w' σ' e s R p => hb w' σ' e s R (k3 e p)) (fun w' σ' e s R p => hc w' σ' e s R (k4 e p)) fun s v w' σ' env' st sb hl ha R' p => hr s v w' σ' env' st sb hl ha R' (k2 s env' p)
/-- a word between two statements -/
theorem wp_cut (M : List Sl → Prop) (h : Wp K t env (Post.cut P M)) (k : ∀ e, M e → P.nx e) : Wp K t env P := wp_imp h k (fun _ _ z => z) (fun _ z => z) fun _ z => z
/-- a tree becomes data -/
theorem Rel.frzAt {i : Nat} {t : OT} {d : D} {σ : TSt} (R : Rel K en w env σ) (e : env[i]? = some (.own t)) (td : TD t d) : ∃ w', w'.H = w.H ∧ Same w.B w'.B ∧ Rel K en w' (env.set i (.val d)) σ := by
  obtain ⟨F, R⟩ := R
  have hl : i < env.length := (List.getElem?_eq_some_iff.mp e).1
  obtain ⟨x, h1, v, rfl, own⟩ := R.at e
  obtain ⟨sb, dr⟩ := own.frz td
  have hσ : σ.set i (some v) = σ := by
    apply List.ext_getElem?
    intro j
    rw [List.getElem?_set]
    by_cases hj : i = j
    · subst hj
      have : i < σ.length := by rw [← R.len]; exact hl
      simp [this, h1]
      exact ((List.getElem?_eq_some_iff.mp h1).2).symm
    · simp [hj]
  have := R.upd (w' := w.frzL (F i)) (i := i) (s := .val d) (o := some v) (fp := []) ⟨R.le.b.trans sb, R.le.h, fun p o z => by
      show (if p ∈ F i then w.H p else w.B p) = _
      rw [if_neg fun z2 => by rw [(own.2.2 p z2).1] at z; cases z]
      exact R.le.f p o z⟩
    (fun j s o hj ej z => z.keep sb fun p o' hp q => ⟨q, fun n => by
      show (if p ∈ F i then w.H p else w.B p) = none
      rw [if_neg fun z2 => hj (R.ap j i p (List.getElem?_eq_some_iff.mp ej).1 hl hp z2)]
      exact n⟩) ⟨rfl, v, rfl, dr⟩ (fun _ _ _ _ z => by simp at z)
  rw [hσ] at this
  exact ⟨w.frzL (F i), rfl, sb, _, this⟩
theorem wp_frz {i : Nat} {ot : OT} {dd : D} (e : env[i]? = some (.own ot)) (td : TD ot dd) (h : Wp K t (env.set i (.val dd)) P) : Wp K t env P := fun en w σ R D hn hb hc hr => by
  obtain ⟨w', e1, e2, R'⟩ := R.frzAt e td
  rw [← e1]
  exact h en w' σ R' D (hn.back e2) (hb.back e2) (hc.back e2) (hr.back e2)
theorem Rel.weak {env' : List Sl} {σ : TSt} (R : Rel K en w env σ) (hl : env'.length = env.length) (h : ∀ (i : Nat) s, env'[i]? = some s → env[i]? = some s ∨ s = .un) : Rel K en w env' σ := by
  obtain ⟨F, R⟩ := R
  refine ⟨fun i => match env'[i]? with | some .un => [] | _ => F i, R.le, hl.trans R.len, (by rw [hl]; exact R.an), fun i s o a b => ?_, fun i j p hi hj a b => ?_⟩
  · rw [a]
    rcases h i s a with z | z
    · have := R.sl i s o z b
      cases s with
      | un => simp [SlS]
      | val d => exact this
      | own d => exact this
      | io d => exact this
      | bor d => exact this
      | scr d => exact this
      | brt d => exact this
    · subst z; simp [SlS]
  · have f : ∀ (i : Nat) p, p ∈ (match env'[i]? with | some .un => [] | _ => F i) → p ∈ F i := fun i p z => by
      split at z
      · simp at z
      · exact z
    exact R.ap i j p (by omega) (by omega) (f i p a) (f j p b)
theorem wp_weak {env' : List Sl} (hl : env'.length = env.length) (hk : ∀ (i : Nat) s, env'[i]? = some s → env[i]? = some s ∨ s = .un) (h : Wp K t env' P) : Wp K t env P := fun en w σ R D hn hb hc hr => h en w σ (R.weak hl hk) D hn hb hc hr
/-- name op= e -/
theorem wp_aug {i : Nat} {f : Int → Int → Int} {a : Int} (e : env[i]? = some (.val (.int a))) (h : EvE K te env fun s => ∃ b, s = .val (.int b) ∧ P.nx (env.set i (.val (.int (f a b))))) : Wp K (tAug i te (ipI f)) env P := fun en w σ R D hn _ _ _ => by
  obtain ⟨x, _, h1, _, v, rfl, r⟩ := R.at e
  refine ⟨v, h1, ?_⟩
  exact h en w σ R _ fun s y w1 e1 p1 r1 => by
    obtain ⟨b, rfl, p⟩ := p1
    cases r1; cases r
    exact ⟨a, b, rfl, rfl, hn w1 _ _ e1.b ((R.grow e1).setVal (.int _)) p⟩
/-! ### nodes -/
/-- te is a node of the tree in slot i -/
def EvN (K : PySem.W.Frag) (te : TE) (env : List Sl) (P : Nat → OT → (OT → OT) → Prop) : Prop := ∀ (en : En) (w : Wd) (σ : TSt), Rel K en w env σ → ∀ Q : VK,
  (∀ i t s f vr u (w' : Wd), w.le w' → (env[i]? = some (.own t) ∨ env[i]? = some (.io t)) → σ[i]? = some (some vr) → AtV w'.H t vr s u f → P i s f → Q u w'.H) → te σ w.H Q
theorem en_var {i : Nat} {t : OT} {Pn : Nat → OT → (OT → OT) → Prop} (e : env[i]? = some (.own t) ∨ env[i]? = some (.io t)) (p : Pn i t id) : EvN K (tVar i) env Pn := fun en w σ R Q q => by
  have : ∃ v, σ[i]? = some (some v) := by
    rcases e with e | e
    · obtain ⟨o, fp, h1, v, rfl, _⟩ := R.at e; exact ⟨v, h1⟩
    · obtain ⟨o, fp, h1, ⟨v, rfl, _⟩, _⟩ := R.at e; exact ⟨v, h1⟩
  obtain ⟨v, h1⟩ := this
  exact ⟨v, h1, q i t t id v v w w.rfl' e h1 .here p⟩
theorem AtV.trans {H : Hp} {t s c : OT} {v u cv : V} {f g : OT → OT} (a : AtV H t v s u f) (b : AtV H s u c cv g) : AtV H t v c cv (fun x => f (g x)) := by
  induction a with
  | here => exact b
  | lst h e1 e2 _ ih => exact .lst h e1 e2 (ih b)
  | tup h e1 e2 _ ih => exact .tup h e1 e2 (ih b)
  | dK h e1 e2 _ ih => exact .dK h e1 e2 (ih b)
  | dT h e1 e2 _ ih => exact .dT h e1 e2 (ih b)
  | ins h e1 e2 _ ih => exact .ins h e1 e2 (ih b)
/-- the tree at a node -/
theorem Rel.nodeTR {i : Nat} {t s : OT} {vr u : V} {f : OT → OT} {σ : TSt} (R : Rel K en w env σ) (e : env[i]? = some (.own t) ∨ env[i]? = some (.io t)) (hv : σ[i]? = some (some vr)) (a : AtV w.H t vr s u f) : ∃ fs, TR K w.B w.H s u fs := by
  rcases e with e | e
  · obtain ⟨o, fp, h1, v, rfl, own⟩ := R.at e
    rw [hv] at h1; cases h1
    obtain ⟨f1, fs, _, ts, _⟩ := a.focus own.1
    exact ⟨fs, ts⟩
  · obtain ⟨o, fp, h1, ⟨v, rfl, own⟩, _⟩ := R.at e
    rw [hv] at h1; cases h1
    obtain ⟨f1, fs, _, ts, _⟩ := a.focus own.1
    exact ⟨fs, ts⟩
theorem en_ixL {ti : TE} {Pn : Nat → OT → (OT → OT) → Prop} (h : EvN K tb env fun i s f => ∃ xs, s = .lst xs ∧ EvE K ti env fun s2 => ∃ k j c, s2 = .val (.int k) ∧ ixN xs.length k = some j ∧ xs[j]? = some c ∧ Pn i c (fun x => f (.lst (xs.set j x)))) : EvN K (tOp (rIx K) tb ti) env Pn := fun en w σ R Q q =>
  h en w σ R _ fun i t s f vr u w1 e1 et hv a p => by
    obtain ⟨xs, rfl, p⟩ := p
    exact p en w1 σ (R.grow e1) _ fun s2 y w2 e2 p2 r2 => by
      obtain ⟨k, j, c, rfl, hj, hc, p⟩ := p2
      cases r2
      have a2 := a.mono e2.h
      obtain ⟨fs, tr⟩ := (R.grow (e1.trans e2)).nodeTR et hv a2
      cases tr with
      | @lst pp _ vs fp hp rs =>
        obtain ⟨cv, _, _, hcv, _⟩ := rs.focus hc
        refine .inl ⟨pp, vs, k, cv, rfl, rfl, .inl (.inl hp), ?_, q i t c _ vr cv w2 (e1.trans e2) et hv (a2.trans (.lst hp hc hcv .here)) p⟩
        unfold atI
        rw [← rs.len, hj]
        exact hcv
theorem en_ixT {ti : TE} {Pn : Nat → OT → (OT → OT) → Prop} (h : EvN K tb env fun i s f => ∃ xs, s = .tup xs ∧ EvE K ti env fun s2 => ∃ k j c, s2 = .val (.int k) ∧ ixN xs.length k = some j ∧ xs[j]? = some c ∧ Pn i c (fun x => f (.tup (xs.set j x)))) : EvN K (tOp (rIx K) tb ti) env Pn := fun en w σ R Q q =>
  h en w σ R _ fun i t s f vr u w1 e1 et hv a p => by
    obtain ⟨xs, rfl, p⟩ := p
    exact p en w1 σ (R.grow e1) _ fun s2 y w2 e2 p2 r2 => by
      obtain ⟨k, j, c, rfl, hj, hc, p⟩ := p2
      cases r2
      have a2 := a.mono e2.h
      obtain ⟨fs, tr⟩ := (R.grow (e1.trans e2)).nodeTR et hv a2
      cases tr with
      | @tup pp _ vs fp hp rs =>
        obtain ⟨cv, _, _, hcv, _⟩ := rs.focus hc
        refine .inr (.inl ⟨pp, vs, k, cv, rfl, rfl, .inl (.inl hp), ?_, q i t c _ vr cv w2 (e1.trans e2) et hv (a2.trans (.tup hp hc hcv .here)) p⟩)
        unfold atI
        rw [← rs.len, hj]
        exact hcv
/-- a node that is data, or a flat list, read -/
theorem ev_node {Pe : Sl → Prop} (h : EvN K te env fun i s f => (∃ d, s = .imm d ∧ Pe (.val d)) ∨ (∃ ds, s = oL ds ∧ Pe (.bor ds))) : EvE K te env Pe := fun en w σ R Q q =>
  h en w σ R _ fun i t s f vr u w1 e1 et hv a p => by
    obtain ⟨fs, tr⟩ := (R.grow e1).nodeTR et hv a
    rcases p with ⟨d, rfl, p⟩ | ⟨ds, rfl, p⟩
    · cases tr with | imm r => exact q _ u w1 e1 p r
    · obtain ⟨pp, vs, rfl, _, h3, r⟩ := tr.oL_inv
      exact q _ _ w1 e1 p ⟨pp, vs, rfl, h3, r⟩
/-- what a node becomes in the slots -/
def putS (env : List Sl) (i : Nat) (t : OT) : List Sl := env.set i (match env[i]? with | some (.io _) => .io t | _ => .own t)
/-- a node that is one object is written: its object o becomes o', the subtree s' -/
theorem Rel.write {i : Nat} {t s s' : OT} {vr : V} {p : Addr} {o o' : HO} {f : OT → OT} {σ : TSt} (R : Rel K en w env σ) (e : env[i]? = some (.own t) ∨ env[i]? = some (.io t)) (hv : σ[i]? = some (some vr)) (a : AtV w.H t vr s (.ref p) f)
    (new : ∀ fs, TR K w.B w.H s (.ref p) fs → fs.Nodup → (∀ q ∈ fs, en.w0.H q = none ∧ w.B q = none) → p ∈ fs ∧ ∀ H', H' p = some o' → (∀ q o, q ≠ p → w.H q = some o → H' q = some o) → ∃ fs', TR K w.B H' s' (.ref p) fs' ∧ fs'.Nodup ∧ ∀ q ∈ fs', en.w0.H q = none ∧ w.B q = none ∧ (q ∈ fs ∨ w.H q = none)) (nk : NoKt o' := by intro _ z; cases z) :
    ∃ w1 : Wd, w1.H = upd w.H p o' ∧ Same w.B w1.B ∧ Rel K en w1 (putS env i (f s')) σ := by
  obtain ⟨F, R0⟩ := id R
  have own : Own K en.w0.H w t vr (F i) := by
    rcases e with e | e
    · obtain ⟨v', z, r⟩ := R0.sl i _ _ e hv; cases z; exact r
    · obtain ⟨⟨v', z, r⟩, _⟩ := R0.sl i _ _ e hv; cases z; exact r
  obtain ⟨f1, fs, pm, ts, rb⟩ := a.focus own.1
  have inF : ∀ q, q ∈ fs → q ∈ F i := fun q z => pm.mem_iff.mpr (List.mem_append.mpr (.inr z))
  have nd : fs.Nodup := (List.nodup_append.mp (pm.nodup_iff.mp own.2.1)).2.1
  obtain ⟨hp, _⟩ := new fs ts nd fun q z => own.2.2 q (inF q z)
  have hB : w.B p = none := (own.2.2 p (inF p hp)).2
  refine ⟨w.put p o' hB nk, rfl, Same.refl _, ?_⟩
  refine R.node (w1 := w.put p o' hB nk) (s' := s') e hv a (Same.refl _) (fun fs ts nd no => ?_) (fun q o z => R0.le.f q o z)
  obtain ⟨hp, k⟩ := new fs ts nd no
  refine ⟨fun q o z1 z2 => ⟨?_, fun n => n⟩, ?_⟩
  · show upd w.H p o' q = some o
    rw [upd_ne (fun z => by subst z; exact z1 hp)]; exact z2
  · obtain ⟨fs', b1, b2, b3⟩ := k (upd w.H p o') upd_same fun q o z1 z2 => by rw [upd_ne z1]; exact z2
    exact ⟨fs', b1, b2, b3⟩
/-- xs.append(e), xs a node -/
theorem wp_appN {tr : TE} (h : EvN K tr env fun i s f => ∃ xs, s = .lst xs ∧ xs.length < 1000000 ∧ EvE K te env fun s2 => ∃ d, Frz s2 d ∧ P.nx (putS env i (f (.lst (xs ++ [.imm d]))))) :
    Wp K (tDrop (tBM K "list" rAppend tr (tCons te tNil))) env P := fun en w σ R D hn _ _ _ =>
  h en w σ R _ fun i t s f vr u w1 e1 et hv a p => by
    obtain ⟨xs, rfl, hl, p⟩ := p
    have R1 := R.grow e1
    obtain ⟨fs, ts⟩ := R1.nodeTR et hv a
    cases ts with
    | @lst pp _ vs fp hp rs =>
      refine ⟨.inl ⟨rfl, _, .inl (.inl hp)⟩, ?_⟩
      exact ev_frz (P := fun s2 => ∃ d, s2 = .val d ∧ P.nx (putS env i (f (.lst (xs ++ [.imm d]))))) (p.imp fun s2 ⟨d, fz, z⟩ => ⟨d, fz, d, rfl, z⟩) en w1 σ R1 _ fun s2 y w2 e2 p2 r2 => by
        obtain ⟨d, rfl, p⟩ := p2
        have a2 := a.mono e2.h
        have R2 := R1.grow e2
        have hp2 := e2.h _ _ hp
        refine ⟨pp, vs, y, rfl, rfl, hp2, Nat.lt_of_lt_of_le (by rw [← rs.len]; exact hl) (by decide), ?_⟩
        obtain ⟨w3, h3, b3, R3⟩ := R2.write (s' := .lst (xs ++ [.imm d])) (o := .lst vs) (o' := .lst (vs ++ [y])) et hv a2 (fun fs ts nd no => by
          cases ts with
          | @lst _ _ vs' fp' hp' rs' =>
            rw [hp2] at hp'; cases hp'
            refine ⟨by simp, fun H' q1 q2 => ⟨pp :: (fp' ++ ([] ++ [])), .lst q1 ((rs'.mono (Same.refl _) fun q o z1 z2 => q2 q o (fun e => by
                subst e; exact (List.nodup_cons.mp nd).1 z1) z2).append (.cons (.imm r2) .nil)), by simpa using nd, fun q z => ?_⟩⟩
            have : q ∈ pp :: fp' := by simpa using z
            exact ⟨(no q this).1, (no q this).2, .inl this⟩)
        rw [← h3]
        exact hn w3 σ _ ((e1.trans e2).b.trans b3) R3 p
theorem putS_own {i : Nat} {t t' : OT} (e : env[i]? = some (.own t)) : putS env i t' = env.set i (.own t') := by unfold putS; rw [e]
theorem putS_io {i : Nat} {t t' : OT} (e : env[i]? = some (.io t)) : putS env i t' = env.set i (.io t') := by unfold putS; rw [e]
theorem oL_app (ds : List D) (d : D) : OT.lst (ds.map .imm ++ [.imm d]) = oL (ds ++ [d]) := by simp [oL]
/-- xs.append(e), a flat list of one's own -/
theorem wp_app {i : Nat} {ds : List D} (e : env[i]? = some (.own (oL ds))) (hl : ds.length < 1000000) (h : EvE K te env fun s => ∃ d, Frz s d ∧ P.nx (env.set i (.own (oL (ds ++ [d]))))) :
    Wp K (tDrop (tBM K "list" rAppend (tVar i) (tCons te tNil))) env P :=
  wp_appN (en_var (.inl e) ⟨ds.map .imm, rfl, by simpa using hl, h.imp fun s ⟨d, f, p⟩ => ⟨d, f, by
    show P.nx (putS env i (.lst (ds.map .imm ++ [.imm d])))
    rw [oL_app, putS_own e]; exact p⟩⟩)
/-- xs[j] = e -/
theorem wp_setLN {tr ti : TE} (h : EvE K te env fun s => ∃ d, Frz s d ∧ EvN K tr env fun i s f => ∃ xs, s = .lst xs ∧ EvE K ti env fun s2 => ∃ k j, s2 = .val (.int k) ∧ ixN xs.length k = some j ∧ (∃ d0, xs[j]? = some (.imm d0)) ∧ P.nx (putS env i (f (.lst (xs.set j (.imm d)))))) :
    Wp K (tAsg te (gSub tr ti rSetL)) env P := fun en w σ R D hn _ _ _ =>
  ev_frz (P := fun s => ∃ d, s = .val d ∧ EvN K tr env fun i s f => ∃ xs, s = .lst xs ∧ EvE K ti env fun s2 => ∃ k j, s2 = .val (.int k) ∧ ixN xs.length k = some j ∧ (∃ d0, xs[j]? = some (.imm d0)) ∧ P.nx (putS env i (f (.lst (xs.set j (.imm d)))))) (h.imp fun s2 ⟨d, fz, z⟩ => ⟨d, fz, d, rfl, z⟩) en w σ R _ fun s y w1 e1 p1 r1 => by
    obtain ⟨d, rfl, p⟩ := p1
    exact p en w1 σ (R.grow e1) _ fun i t s f vr u w2 e2 et hv a p => by
      obtain ⟨xs, rfl, p⟩ := p
      exact p en w2 σ (R.grow (e1.trans e2)) _ fun s3 y3 w3 e3 p3 r3 => by
        obtain ⟨k, j, rfl, hj, ⟨d0, hd0⟩, p⟩ := p3
        cases r3
        have a3 := a.mono e3.h
        have R3 := R.grow ((e1.trans e2).trans e3)
        obtain ⟨fs, ts⟩ := R3.nodeTR et hv a3
        cases ts with
        | @lst pp _ vs fp hp rs =>
          have hjl : j < xs.length := (List.getElem?_eq_some_iff.mp hd0).1
          refine ⟨pp, vs, k, j, rfl, rfl, hp, (by rw [← rs.len]; exact hj), ?_⟩
          have r3 : Dr K w3.B d y := Dr.mono (e2.trans e3).b r1
          obtain ⟨w4, h4, b4, R4⟩ := R3.write (s' := .lst (xs.set j (.imm d))) (o := .lst vs) (o' := .lst (vs.set j y)) et hv a3 (fun fs ts nd no => by
            cases ts with
            | @lst _ _ vs' fp' hp' rs' =>
              rw [hp] at hp'; cases hp'
              refine ⟨by simp, fun H' q1 q2 => ?_⟩
              have rs2 := rs'.mono (H' := H') (Same.refl _) fun q o z1 z2 => q2 q o (fun e => by subst e; exact (List.nodup_cons.mp nd).1 z1) z2
              have key : ∀ {xs : List OT} {vs : List V} {fp : List Addr} {j : Nat}, TRs K w3.B H' xs vs fp → xs[j]? = some (.imm d0) → TRs K w3.B H' (xs.set j (.imm d)) (vs.set j y) fp := by
                intro xs
                induction xs with
                | nil => intro vs fp j h e; simp at e
                | cons x r ih =>
                  intro vs fp j h e
                  cases h with
                  | @cons _ v fa fb _ vs h1 t =>
                    cases j with
                    | zero => simp at e; subst e; cases h1; exact .cons (f1 := []) (.imm r3) t
                    | succ j => simp at e; exact .cons h1 (ih t e)
              exact ⟨pp :: fp', .lst q1 (key rs2 hd0), nd, fun q z => ⟨(no q z).1, (no q z).2, .inl z⟩⟩)
          rw [← h4]
          exact hn w4 σ _ (((e1.trans e2).trans e3).b.trans b4) R4 p
theorem oL_set (ds : List D) (j : Nat) (d : D) : OT.lst ((ds.map .imm).set j (.imm d)) = oL (ds.set j d) := by simp [oL, List.map_set]
theorem wp_setL {i : Nat} {ds : List D} {ti : TE} (e : env[i]? = some (.own (oL ds))) (h : EvE K te env fun s => ∃ d, Frz s d ∧ EvE K ti env fun s2 => ∃ k j, s2 = .val (.int k) ∧ ixN ds.length k = some j ∧ j < ds.length ∧ P.nx (env.set i (.own (oL (ds.set j d))))) :
    Wp K (tAsg te (gSub (tVar i) ti rSetL)) env P :=
  wp_setLN (h.imp fun s ⟨d, f, z⟩ => ⟨d, f, en_var (.inl e) ⟨ds.map .imm, rfl, z.imp fun s2 ⟨k, j, e2, hj, hl, p⟩ => ⟨k, j, e2, by simpa using hj, ⟨ds[j], by simp [hl]⟩, by
    show P.nx (putS env i (.lst ((ds.map .imm).set j (.imm d))))
    rw [oL_set, putS_own e]; exact p⟩⟩⟩)
/-! ### what a for walks -/
/-- J yields the data ys, as long as L holds of the world -/
def ItD (K : PySem.W.Frag) (J : It) (L : Wd → Prop) (ys : List D) : Prop :=
  ∀ w : Wd, L w → (∀ (i : Nat) d, ys[i]? = some d → J.go i w.H ∧ ∀ x H', J.yld i w.H x H' → ∃ w' : Wd, w'.H = H' ∧ w.le w' ∧ Dr K w'.B d x) ∧ ∀ i, ys.length ≤ i → J.stop i w.H
/-- b: the heap as it is stays (a comprehension); else the frame's objects may change -/
def Lw (b : Bool) (w0 w1 : Wd) : Wd → Prop := fun w' => match b with
  | true => w1.le w'
  | false => Same w1.B w'.B ∧ w0.le w'
def EvI (K : PySem.W.Frag) (b : Bool) (wi : TI) (env : List Sl) (P : List D → Prop) : Prop := ∀ (en : En) (w : Wd) (σ : TSt), Rel K en w env σ → ∀ R : It → Hp → Prop, (∀ J ys w', w.le w' → P ys → ItD K J (Lw b en.w0 w') ys → R J w'.H) → wi σ w.H R
theorem itd_list {a : Addr} {xs : List V} {ds : List D} {L : Wd → Prop} (h1 : ∀ w, L w → SqL K w.H a xs) (h2 : ∀ w, L w → DrA K w.B ds xs) : ItD K (Itl K a) L ds := fun w hw => by
  have s := h1 w hw
  have r := h2 w hw
  refine ⟨fun i d e => ?_, fun i hi => ⟨xs, s, by rw [← r.len]; exact hi⟩⟩
  obtain ⟨v, hv, rd⟩ := r.get e
  refine ⟨⟨xs, v, s, hv⟩, fun x H' y => ?_⟩
  obtain ⟨rfl, y⟩ := y
  have := y xs s
  rw [hv] at this; cases this
  exact ⟨w, rfl, w.rfl', rd⟩
theorem itd_tup {a : Addr} {xs : List V} {ds : List D} {L : Wd → Prop} (h1 : ∀ w, L w → SqT K w.H a xs) (h2 : ∀ w, L w → DrA K w.B ds xs) : ItD K (Itt K a) L ds := fun w hw => by
  have s := h1 w hw
  have r := h2 w hw
  refine ⟨fun i d e => ?_, fun i hi => ⟨xs, s, by rw [← r.len]; exact hi⟩⟩
  obtain ⟨v, hv, rd⟩ := r.get e
  refine ⟨⟨xs, v, s, hv⟩, fun x H' y => ?_⟩
  obtain ⟨rfl, y⟩ := y
  have := y xs s
  rw [hv] at this; cases this
  exact ⟨w, rfl, w.rfl', rd⟩
theorem Lw.b {b : Bool} {w0 w1 w' : Wd} (h : Lw b w0 w1 w') : Same w1.B w'.B := by
  cases b with
  | true => exact Wd.le.b h
  | false => exact h.1
theorem Lw.le0 {b : Bool} {w0 w1 w' : Wd} (e : w0.le w1) (h : Lw b w0 w1 w') : w0.le w' := by
  cases b with
  | true => exact e.trans h
  | false => exact h.2
theorem Lw.refl {b : Bool} {w0 w1 : Wd} (e : w0.le w1) : Lw b w0 w1 w1 := by
  cases b with
  | true => exact w1.rfl'
  | false => exact ⟨Same.refl _, e⟩
/-- one of two ways to walk -/
def iOr (a b : TI) : TI := fun σ H R => a σ H R ∨ b σ H R
theorem pi_or {X : Cx} {tg l : Expr} {a b : TI} (ha : PI X tg l a) (hb : PI X tg l b) : PI X tg l (iOr a b) :=
  ⟨fun pins s σ H R I h => h.elim (ha.run pins s σ H R I) (hb.run pins s σ H R I)⟩
def iSeq (K : PySem.W.Frag) (te : TE) : TI := iOr (iList K te) (iTup K te)
theorem pi_seq {X : Cx} {tg l : Expr} {tl : TE} (hl : PE X l tl) : PI X tg l (iSeq X.K tl) := pi_or (pi_list hl) (pi_tup hl)
section
variable {b : Bool} {Pd : List D → Prop}
/-- over data: a list, a tuple (a list of one's own becomes data) -/
theorem ei_val (h : EvE K te env fun s => ∃ ds, Frz s (.lst ds) ∧ Pd ds) : EvI K b (iSeq K te) env Pd := fun en w σ R Q q =>
  .inl (ev_frz (P := fun s => ∃ ds, s = .val (.lst ds) ∧ Pd ds) (h.imp fun s ⟨ds, f, p⟩ => ⟨_, f, ds, rfl, p⟩) en w σ R _ fun s v w1 e1 h1 r1 => by
    obtain ⟨ds, rfl, p⟩ := h1
    cases r1 with
    | lst ha r => exact ⟨_, rfl, ⟨_, .inl (.inl (w1.sub _ _ ha))⟩, q _ ds w1 e1 p (itd_list (fun w' l => .inl (.inl (w'.sub _ _ (l.b _ _ ha)))) fun w' l => r.mono l.b)⟩)
theorem ei_tup (h : EvE K te env fun s => ∃ ds, s = .val (.tup ds) ∧ Pd ds) : EvI K b (iSeq K te) env Pd := fun en w σ R Q q =>
  .inr (h en w σ R _ fun s v w1 e1 h1 r1 => by
    obtain ⟨ds, rfl, p⟩ := h1
    cases r1 with
    | tup ha r => exact ⟨_, rfl, ⟨_, sameT w1.sub ha⟩, q _ ds w1 e1 p (itd_tup (fun w' l => sameT w'.sub (sameT l.b ha)) fun w' l => r.mono l.b)⟩)
/-- over a parameter that is read -/
theorem ei_bor {i : Nat} {ds : List D} (e : env[i]? = some (.bor ds)) (p : Pd ds) : EvI K b (iSeq K (tVar i)) env Pd := fun en w σ R Q q => by
  obtain ⟨o, _, h1, _, pp, xs, rfl, h2, r⟩ := R.at e
  exact .inl ⟨.ref pp, h1, pp, rfl, ⟨xs, .inl (.inl (R.le.h _ _ h2))⟩, q _ ds w w.rfl' p (itd_list (fun w' l => .inl (.inl ((l.le0 R.le).h _ _ h2))) fun w' l => r.mono l.b)⟩
theorem ei_scr {i : Nat} {ds : List D} (e : env[i]? = some (.scr ds)) (p : Pd ds) : EvI K b (iSeq K (tVar i)) env Pd := fun en w σ R Q q => by
  obtain ⟨o, _, h1, _, pp, xs, rfl, h2, r⟩ := R.at e
  exact .inl ⟨.ref pp, h1, pp, rfl, ⟨xs, R.le.h.seq h2⟩, q _ ds w w.rfl' p (itd_list (fun w' l => (l.le0 R.le).h.seq h2) fun w' l => r.mono l.b)⟩
/-- in a comprehension: a list of one's own as it is -/
theorem ei_own {i : Nat} {ds : List D} (e : env[i]? = some (.own (oL ds))) (p : Pd ds) : EvI K true (iSeq K (tVar i)) env Pd := fun en w σ R Q q => by
  obtain ⟨o, fp, h1, v, rfl, tr, _⟩ := R.at e
  obtain ⟨pp, xs, rfl, _, h3, r⟩ := tr.oL_inv
  exact .inl ⟨.ref pp, h1, pp, rfl, ⟨_, .inl (.inl h3)⟩, q _ ds w w.rfl' p (itd_list (fun w' (l : w.le w') => .inl (.inl (l.h _ _ h3))) fun w' (l : w.le w') => r.mono l.b)⟩
/-- range -/
def rngD (lo : Int) (n : Nat) : List D := (List.range n).map fun i : Nat => D.int (lo + (i : Int))
theorem itd_range {lo : Int} {n : Nat} {L : Wd → Prop} : ItD K (Itr lo n) L (rngD lo n) := fun w hw => by
  refine ⟨fun i d e => ?_, fun i hi => by
    show n ≤ i
    simpa [rngD] using hi⟩
  have hi : i < n := by
    have := (List.getElem?_eq_some_iff.mp e).1
    simpa [rngD] using this
  refine ⟨hi, fun x H' y => ?_⟩
  obtain ⟨rfl, rfl⟩ := y
  have : d = .int (lo + (i : Int)) := by
    simp only [rngD, List.getElem?_map, List.getElem?_range hi, Option.map_some, Option.some.injEq] at e
    exact e.symm
  subst this
  exact ⟨w, rfl, w.rfl', .int _⟩
theorem ei_rng1 {tA : TA} (h : EvA K tA env fun ss => ∃ j : Int, ss = [.val (.int j)] ∧ -1000000000 ≤ j ∧ j ≤ 1000000000 ∧ Pd (rngD 0 j.toNat)) : EvI K b (iRng1 tA) env Pd := fun en w σ R Q q =>
  h en w σ R _ fun ss vs w1 e1 h1 r1 => by
    obtain ⟨j, rfl, l1, l2, p⟩ := h1
    cases r1 with
    | cons r t => cases t; cases r; exact ⟨j, rfl, by omega, by omega, q _ _ w1 e1 p itd_range⟩
theorem ei_rng2 {tA : TA} (h : EvA K tA env fun ss => ∃ i j : Int, ss = [.val (.int i), .val (.int j)] ∧ -1000000000 ≤ i ∧ i ≤ 1000000000 ∧ -1000000000 ≤ j ∧ j ≤ 1000000000 ∧ Pd (rngD i (j - i).toNat)) : EvI K b (iRng2 tA) env Pd := fun en w σ R Q q =>
  h en w σ R _ fun ss vs w1 e1 h1 r1 => by
    obtain ⟨i, j, rfl, l1, l2, l3, l4, p⟩ := h1
    cases r1 with
    | cons r t => cases t with | cons r2 t => cases t; cases r; cases r2; exact ⟨i, j, rfl, ⟨by omega, by omega, by omega, by omega⟩, q _ _ w1 e1 p itd_range⟩
def enumD : Nat → List D → List D
  | _, [] => []
  | k, d :: r => .tup [.int k, d] :: enumD (k + 1) r
end
/-! ### targets -/
/-- the target g stores of the datum d these data in these slots -/
inductive GD (K : PySem.W.Frag) : TG → D → List (Nat × D) → Prop
  | name {i : Nat} {d : D} : GD K (gName i) d [(i, d)]
  | tup2 {g1 g2 : TG} {d1 d2 : D} {u1 u2 : List (Nat × D)} : GD K g1 d1 u1 → GD K g2 d2 u2 → GD K (gTup K 2 (gCons g1 (gCons g2 gNil))) (.tup [d1, d2]) (u1 ++ u2)
  | tup3 {g1 g2 g3 : TG} {d1 d2 d3 : D} {u1 u2 u3 : List (Nat × D)} : GD K g1 d1 u1 → GD K g2 d2 u2 → GD K g3 d3 u3 → GD K (gTup K 3 (gCons g1 (gCons g2 (gCons g3 gNil)))) (.tup [d1, d2, d3]) (u1 ++ (u2 ++ u3))
  | tup4 {g1 g2 g3 g4 : TG} {d1 d2 d3 d4 : D} {u1 u2 u3 u4 : List (Nat × D)} : GD K g1 d1 u1 → GD K g2 d2 u2 → GD K g3 d3 u3 → GD K g4 d4 u4 → GD K (gTup K 4 (gCons g1 (gCons g2 (gCons g3 (gCons g4 gNil))))) (.tup [d1, d2, d3, d4]) (u1 ++ (u2 ++ (u3 ++ u4)))
  | see {g1 : TG} {d e : D} {u : List (Nat × D)} : See d e → GD K g1 e u → GD K g1 d u
def sets (us : List (Nat × D)) (env : List Sl) : List Sl := us.foldl (fun e p => e.set p.1 (.val p.2)) env
def setv (us : List (Nat × V)) (σ : TSt) : TSt := us.foldl (fun e p => e.set p.1 (some p.2)) σ
def GV (K : PySem.W.Frag) (B : Hp) (us : List (Nat × D)) (vs : List (Nat × V)) : Prop := Paired (fun (p : Nat × D) (q : Nat × V) => p.1 = q.1 ∧ Dr K B p.2 q.2) us vs
theorem paired_app {α β : Type} {F : α → β → Prop} {a c : List α} {b d : List β} (h : Paired F a b) (h' : Paired F c d) : Paired F (a ++ c) (b ++ d) := by
  induction h with
  | nil => exact h'
  | cons r _ ih => exact .cons r ih
theorem GD.run {g : TG} {d : D} {us : List (Nat × D)} (G : GD K g d us) : ∀ {v : V} {σ : TSt} {Q : TSt → Hp → Prop}, Dr K w.B d v → (∀ vs, GV K w.B us vs → Q (setv vs σ) w.H) → g v σ w.H Q := by
  induction G with
  | @name i d => intro v σ Q h q; exact q [(i, v)] (.cons ⟨rfl, h⟩ .nil)
  | see s _ ih => intro v σ Q h q; exact ih (s.dr h) q
  | tup2 _ _ i1 i2 =>
    intro v σ Q h q
    cases h with
    | tup ha r =>
      cases r with | cons r1 r => cases r with | cons r2 r => cases r; exact ⟨_, _, rfl, sameT w.sub ha, rfl, _, _, rfl, i1 r1 fun vs1 g1 => ⟨_, _, rfl, i2 r2 fun vs2 g2 => ⟨rfl, by
        have := q _ (paired_app g1 g2)
        simpa [setv, List.foldl_append] using this⟩⟩⟩
  | tup3 _ _ _ i1 i2 i3 =>
    intro v σ Q h q
    cases h with
    | tup ha r =>
      cases r with | cons r1 r => cases r with | cons r2 r => cases r with | cons r3 r => cases r; exact ⟨_, _, rfl, sameT w.sub ha, rfl, _, _, rfl, i1 r1 fun vs1 g1 => ⟨_, _, rfl, i2 r2 fun vs2 g2 => ⟨_, _, rfl, i3 r3 fun vs3 g3 => ⟨rfl, by
        have := q _ (paired_app g1 (paired_app g2 g3))
        simpa [setv, List.foldl_append] using this⟩⟩⟩⟩
  | tup4 _ _ _ _ i1 i2 i3 i4 =>
    intro v σ Q h q
    cases h with
    | tup ha r =>
      cases r with | cons r1 r => cases r with | cons r2 r => cases r with | cons r3 r => cases r with | cons r4 r => cases r; exact ⟨_, _, rfl, sameT w.sub ha, rfl, _, _, rfl, i1 r1 fun vs1 g1 => ⟨_, _, rfl, i2 r2 fun vs2 g2 => ⟨_, _, rfl, i3 r3 fun vs3 g3 => ⟨_, _, rfl, i4 r4 fun vs4 g4 => ⟨rfl, by
        have := q _ (paired_app g1 (paired_app g2 (paired_app g3 g4)))
        simpa [setv, List.foldl_append] using this⟩⟩⟩⟩⟩
theorem Rel.sets {us : List (Nat × D)} {vs : List (Nat × V)} (g : GV K w.B us vs) : ∀ {env : List Sl} {σ : TSt}, Rel K en w env σ → Rel K en w (DL.sets us env) (setv vs σ) := by
  induction g with
  | nil => intro env σ R; exact R
  | @cons p q us vs h _ ih =>
    intro env σ R
    have e := h.1
    have := ih (R.setVal (i := p.1) h.2)
    rw [e] at this
    show Rel K en w (DL.sets us (env.set p.1 (.val p.2))) (setv vs (σ.set q.1 (some q.2)))
    rw [e]
    exact this
/-! ### for -/
theorem wp_for {wi : TI} {g : TG} {tb : TS} (Inv : Nat → List Sl → Prop) (ys : List D) (h : EvI K false wi env fun ds => ds = ys) (h0 : Inv 0 env)
    (hs : ∀ i d env', ys[i]? = some d → Inv i env' → ∃ us, GD K g d us ∧ Wp K tb (sets us env') (Post.loop P (Inv (i + 1))))
    (hd : ∀ env', Inv ys.length env' → P.nx env') : Wp K (tFor wi g tb) env P := fun en w σ R D hn hb hc hr =>
  h en w σ R _ fun J ds w1 e1 hy it => by
    subst hy
    refine ⟨fun i m σ' H' => m = ds.length - i ∧ i ≤ ds.length ∧ ∃ w' env', w'.H = H' ∧ Same w1.B w'.B ∧ Rel K en w' env' σ' ∧ Inv i env', ⟨ds.length, by simp, Nat.zero_le _, w1, env, rfl, Same.refl _, R.grow e1, h0⟩, ?_⟩
    rintro i m σ' H' ⟨rfl, hi, w', env', rfl, sb, R', iv⟩
    have itw := it w' ⟨sb, R'.le⟩
    by_cases hlt : i < ds.length
    · right
      obtain ⟨go, yl⟩ := itw.1 i ds[i] (List.getElem?_eq_getElem hlt)
      refine ⟨go, fun σ2 H2 => ∃ w2 env2, w2.H = H2 ∧ Same w1.B w2.B ∧ Rel K en w2 env2 σ2 ∧ Inv (i + 1) env2, fun σ2 H2 ⟨w2, env2, q1, q2, q3, q4⟩ => ⟨ds.length - (i + 1), by omega, rfl, hlt, w2, env2, q1, q2, q3, q4⟩, fun x H2 y => ?_⟩
      obtain ⟨w2, rfl, e2, rd⟩ := yl x H2 y
      obtain ⟨us, G, body⟩ := hs i ds[i] env' (List.getElem?_eq_getElem hlt) iv
      refine G.run rd fun vs gv => ?_
      have sb2 := sb.trans e2.b
      refine body en w2 _ ((R'.grow e2).sets gv) _ (fun w3 σ3 env3 s3 R3 n3 => ⟨w3, env3, rfl, sb2.trans s3, R3, n3⟩) (fun w3 σ3 env3 s3 R3 n3 => hn w3 σ3 env3 ((e1.b.trans sb2).trans s3) R3 n3) (fun w3 σ3 env3 s3 R3 n3 => ⟨w3, env3, rfl, sb2.trans s3, R3, n3⟩) (hr.back (e1.b.trans sb2))
    · left
      have e : i = ds.length := by omega
      subst e
      exact ⟨itw.2 _ (Nat.le_refl _), hn w' σ' env' (e1.b.trans sb) R' (hd env' iv)⟩
/-! ### comprehensions -/
def wipeS (env : List Sl) : List Nat → List Sl
  | [] => env
  | v :: vs => (wipeS env vs).set v .un
theorem Rel.wipe {σ : TSt} (R : Rel K en w env σ) : ∀ vs : List Nat, Rel K en w (wipeS env vs) (L2.wipe σ vs)
  | [] => R
  | v :: vs => (R.wipe vs).setUn
theorem wipe_get {σ : TSt} {i : Nat} : ∀ vs : List Nat, (L2.wipe σ vs)[i]? = if i ∈ vs then σ[i]?.map (fun _ => none) else σ[i]?
  | [] => by simp [L2.wipe]
  | v :: vs => by
    have ih := wipe_get (σ := σ) (i := i) vs
    show ((L2.wipe σ vs).set v none)[i]? = _
    rw [List.getElem?_set]
    by_cases hv : v = i
    · subst hv
      simp only [if_true, L2.wipe_length, List.mem_cons, true_or]
      by_cases hl : v < σ.length
      · simp [hl]
      · simp [hl]
    · simp only [hv, if_false, ih, List.mem_cons]
      have : ¬ i = v := fun z => hv z.symm
      simp [this]
theorem wipe_set {σ : TSt} {j : Nat} {x : Option V} {vs : List Nat} (h : j ∈ vs) : L2.wipe (σ.set j x) vs = L2.wipe σ vs := by
  apply List.ext_getElem?
  intro i
  rw [wipe_get, wipe_get]
  by_cases hi : i ∈ vs
  · simp only [hi, if_true, List.getElem?_set]
    by_cases hj : j = i
    · subst hj
      by_cases hl : j < σ.length <;> simp [hl]
    · simp [hj]
  · have : j ≠ i := fun z => hi (z ▸ h)
    simp [hi, List.getElem?_set_ne this]
theorem wipe_wipe {σ : TSt} {vs : List Nat} : L2.wipe (L2.wipe σ vs) vs = L2.wipe σ vs := by
  apply List.ext_getElem?
  intro i
  rw [wipe_get, wipe_get]
  by_cases hi : i ∈ vs
  · simp only [hi, if_true]
    cases σ[i]? <;> rfl
  · simp [hi]
theorem wipe_setv {vs : List Nat} {B : Hp} {us : List (Nat × D)} {gs : List (Nat × V)} (g : GV K B us gs) (hu : ∀ u ∈ us, u.1 ∈ vs) : ∀ {σ : TSt}, L2.wipe (setv gs σ) vs = L2.wipe σ vs := by
  induction g with
  | nil => intro σ; rfl
  | @cons p q us gs h _ ih =>
    intro σ
    have e := h.1
    show L2.wipe (setv gs (σ.set q.1 (some q.2))) vs = _
    rw [ih (fun u z => hu u (List.mem_cons_of_mem _ z)), wipe_set (by rw [← e]; exact hu p List.mem_cons_self)]
theorem ev_lcI {wi : TI} {g : TG} {te : TE} {tt : TT} {vs : List Nat} {Q : Sl → Prop} (Inv : Nat → List D → Prop) (ys : List D) (hy : ys.length ≤ 1000000) (h : EvI K true wi env fun ds => ds = ys) (h0 : Inv 0 [])
    (hs : ∀ i d acc, ys[i]? = some d → Inv i acc → ∃ us, GD K g d us ∧ (∀ u ∈ us, u.1 ∈ vs) ∧ EvT K tt (sets us (wipeS env vs)) fun b => (b = true → EvE K te (sets us (wipeS env vs)) fun s => ∃ y, Frz s y ∧ Inv (i + 1) (acc ++ [y])) ∧ (b = false → Inv (i + 1) acc))
    (hd : ∀ acc, Inv ys.length acc → Q (.own (oL acc))) : EvE K (tLc wi g tt te vs) env Q := fun en w σ R Q0 q =>
  h en w σ R _ fun J ds w1 e1 hyy it => by
    subst hyy
    intro Dl hD
    refine ⟨fun i m H' => m = ds.length - i ∧ i ≤ ds.length ∧ ∃ (w' : Wd) (acc : List D) (xs : List V), w'.H = H' ∧ w1.le w' ∧ w'.B Dl = none ∧ w'.H Dl = some (.lst xs) ∧ DrA K w'.B acc xs ∧ acc.length ≤ i ∧ Inv i acc,
      ⟨ds.length, by simp, Nat.zero_le _, w1.lay Dl (.lst []) hD, [], [], rfl, Wd.le_lay hD, (show w1.B Dl = none from Wd.freeB hD), upd_same, .nil, Nat.le_refl _, h0⟩, ?_⟩
    rintro i m H' ⟨rfl, hi, w', acc, xs, rfl, le1, hB, hX, ra, hal, iv⟩
    have itw := it w' le1
    by_cases hlt : i < ds.length
    · right
      obtain ⟨go, yl⟩ := itw.1 i ds[i] (List.getElem?_eq_getElem hlt)
      refine ⟨go, fun H2 => ∃ (w2 : Wd) (acc2 : List D) (xs2 : List V), w2.H = H2 ∧ w1.le w2 ∧ w2.B Dl = none ∧ w2.H Dl = some (.lst xs2) ∧ DrA K w2.B acc2 xs2 ∧ acc2.length ≤ i + 1 ∧ Inv (i + 1) acc2, fun H2 hh => ⟨ds.length - (i + 1), by omega, rfl, hlt, hh⟩, fun x H2 y => ?_⟩
      obtain ⟨w2, rfl, e2, rd⟩ := yl x H2 y
      obtain ⟨us, G, hu, body⟩ := hs i ds[i] acc (List.getElem?_eq_getElem hlt) iv
      refine G.run rd fun gs gv => ⟨by rw [wipe_setv gv hu, wipe_wipe], ?_⟩
      have R2 : Rel K en w2 (sets us (wipeS env vs)) (setv gs (L2.wipe σ vs)) := (((R.grow ((e1.trans le1).trans e2)).wipe vs)).sets gv
      refine body en w2 _ R2 _ fun b w3 e3 p3 => ?_
      cases b with
      | true =>
        refine ev_frz (P := fun s => ∃ y, s = .val y ∧ Inv (i + 1) (acc ++ [y])) ((p3.1 rfl).imp fun s ⟨y, f, z⟩ => ⟨y, f, y, rfl, z⟩) en w3 _ (R2.grow e3) _ fun s v w4 e4 p4 r4 => ?_
        obtain ⟨y, rfl, p4⟩ := p4
        have e24 := (e2.trans e3).trans e4
        have hB4 : w4.B Dl = none := (e24.f _ _ hX).trans hB
        refine ⟨xs, e24.h _ _ hX, Nat.lt_of_lt_of_le (by rw [← ra.len]; omega) (show 1000000 ≤ sizeLine by decide), w4.put Dl (.lst (xs ++ [v])) hB4, acc ++ [y], xs ++ [v], rfl, ?_, hB4, upd_same, (ra.mono e24.b).snoc r4, (by simp; omega), p4⟩
        have e14 := le1.trans e24
        refine ⟨e14.b, fun c o z => ?_, e14.f⟩
        show upd w4.H Dl _ c = some o
        rw [upd_ne (ne_of_none z hD)]
        exact e14.h c o z
      | false =>
        have e23 := e2.trans e3
        exact ⟨w3, acc, xs, rfl, le1.trans e23, (e23.f _ _ hX).trans hB, e23.h _ _ hX, ra.mono e23.b, by omega, p3.2 rfl⟩
    · left
      have e : i = ds.length := by omega
      subst e
      exact ⟨itw.2 _ (Nat.le_refl _), q _ _ w' (e1.trans le1) (hd acc iv) ⟨[Dl], TR.ofL hX ra, by simp, fun q z => by
        have e : q = Dl := by simpa using z
        subst e
        exact ⟨e1.h.free hD, hB⟩⟩⟩
/-- each item gives one -/
theorem ev_map {wi : TI} {g : TG} {te : TE} {vs : List Nat} {Q : Sl → Prop} (f : D → D) (ys : List D) (hy : ys.length ≤ 1000000) (h : EvI K true wi env fun ds => ds = ys)
    (hs : ∀ d, d ∈ ys → ∃ us, GD K g d us ∧ (∀ u ∈ us, u.1 ∈ vs) ∧ EvE K te (sets us (wipeS env vs)) fun s => Frz s (f d)) (p : Q (.own (oL (ys.map f)))) : EvE K (tLc wi g tYes te vs) env Q :=
  ev_lcI (fun i acc => acc = (ys.take i).map f) ys hy h rfl (fun i d acc e ha => by
    obtain ⟨us, G, hu, he⟩ := hs d (List.mem_of_getElem? e)
    refine ⟨us, G, hu, et_yes ⟨fun _ => he.imp fun s z => ⟨f d, z, ?_⟩, fun z => by cases z⟩⟩
    rw [ha, List.take_add_one, e]; simp) fun acc ha => by rw [ha, List.take_length]; exact p
/-- with a test -/
theorem ev_filt {wi : TI} {g : TG} {te : TE} {tt : TT} {vs : List Nat} {Q : Sl → Prop} (c : D → Bool) (f : D → D) (ys : List D) (hy : ys.length ≤ 1000000) (h : EvI K true wi env fun ds => ds = ys)
    (hs : ∀ d, d ∈ ys → ∃ us, GD K g d us ∧ (∀ u ∈ us, u.1 ∈ vs) ∧ EvT K tt (sets us (wipeS env vs)) (fun b => b = c d) ∧ (c d = true → EvE K te (sets us (wipeS env vs)) fun s => Frz s (f d))) (p : Q (.own (oL ((ys.filter c).map f)))) : EvE K (tLc wi g tt te vs) env Q :=
  ev_lcI (fun i acc => acc = ((ys.take i).filter c).map f) ys hy h rfl (fun i d acc e ha => by
    obtain ⟨us, G, hu, ht, he⟩ := hs d (List.mem_of_getElem? e)
    refine ⟨us, G, hu, ht.imp fun b hb => ⟨fun z => (he (by rw [← hb, z])).imp fun s z2 => ⟨f d, z2, ?_⟩, fun z => ?_⟩⟩
    · rw [ha, List.take_add_one, e]; subst hb; simp [z]
    · rw [ha, List.take_add_one, e]; subst hb; simp [z]) fun acc ha => by rw [ha, List.take_length]; exact p
end
/-! ### defs -/
section
variable {Pr : Program} {wd : World} {K : PySem.W.Frag} {mg : Str → Option Value} {base : Heap}
/-- the parameters' trees in the slots -/
def ioS (n : Nat) (env : List Sl) : List Sl := (env.take n).map fun | .io t => .io t | _ => .un
theorem rel_start {en : En} {w : Wd} {as : List Sl} {vs : List V} {N : List Str} {n : Nat} (R : Rel K en w as (vs.map some)) (hn : vs.length = n) (hN : n ≤ N.length) : Rel K en w (as ++ List.replicate (N.length - n) .un) (L2.start N vs) := by
  obtain ⟨F, R⟩ := R
  have hl : as.length = vs.length := by simpa using R.len
  refine ⟨fun i => if i < n then F i else [], R.le, by simp [L2.start, hl, hn], (by have := R.an; simp; omega), fun i s o a b => ?_, fun i j p hi hj a b => ?_⟩
  · by_cases hi : i < as.length
    · rw [List.getElem?_append_left hi] at a
      unfold L2.start at b
      rw [List.getElem?_append_left (by simp; omega)] at b
      rw [if_pos (by omega)]
      exact R.sl i s o a b
    · rw [List.getElem?_append_right (by omega)] at a
      have : s = .un := by
        obtain ⟨_, e⟩ := List.getElem?_eq_some_iff.mp a
        simpa using e.symm
      subst this
      rw [if_neg (by omega)]
      exact rfl
  · by_cases h1 : i < n
    · by_cases h2 : j < n
      · rw [if_pos h1] at a; rw [if_pos h2] at b
        exact R.ap i j p (by omega) (by omega) a b
      · rw [if_neg h2] at b; simp at b
    · rw [if_neg h1] at a; simp at a
/-- what is handed back to the caller -/
theorem rel_back {en : En} {w : Wd} {env : List Sl} {s : Sl} {v : V} {vs : List V} {σ : TSt} {n : Nat} (st : StS s) (ha : en.args = vs) (hn : vs.length = n) (hl : σ.length = env.length) (hN : n ≤ env.length) (R : Rel K en w (env ++ [s]) (σ ++ [some v])) : Rel K en w (ioS n env ++ [s]) (vs.map some ++ [some v]) := by
  obtain ⟨F, R⟩ := R
  have hil : (ioS n env).length = n := by simp [ioS, hN]
  refine ⟨fun i => if i = n then F env.length else match env[i]? with | some (.io _) => F i | _ => [], R.le, by simp [hil, hn], by simp [hil, ha, hn], fun i s' o a b => ?_, fun i j p hi hj a b => ?_⟩
  · by_cases hi : i < n
    · rw [List.getElem?_append_left (by omega)] at a
      rw [List.getElem?_append_left (by simp; omega)] at b
      simp only [Nat.ne_of_lt hi, if_false]
      have hie : i < env.length := by omega
      have e1 : (ioS n env)[i]? = some (match env[i] with | .io t => .io t | _ => .un) := by
        simp only [ioS, List.getElem?_map, List.getElem?_take, hi, if_true, List.getElem?_eq_getElem hie, Option.map_some]
      rw [e1] at a
      rw [List.getElem?_eq_getElem hie]
      cases h : env[i] with
      | io t =>
        rw [h] at a
        cases a
        obtain ⟨o2, q1, q2⟩ := R.at (i := i) (s := .io t) (by rw [List.getElem?_append_left hie, List.getElem?_eq_getElem hie, h])
        have q3 := q2.2
        rw [ha] at q3
        rw [List.getElem?_map] at b
        have : o2 = o := by
          rw [← q3]
          cases hv : vs[i]? with
          | none => rw [hv] at b; cases b
          | some x => rw [hv] at b; cases b; rfl
        subst this
        exact q2
      | un => rw [h] at a; cases a; exact rfl
      | val d => rw [h] at a; cases a; exact rfl
      | own d => rw [h] at a; cases a; exact rfl
      | bor d => rw [h] at a; cases a; exact rfl
      | scr d => rw [h] at a; cases a; exact rfl
      | brt d => rw [h] at a; cases a; exact rfl
    · have hi2 : i = n := by
        have := (List.getElem?_eq_some_iff.mp a).1
        simp [hil] at this; omega
      subst hi2
      rw [if_pos rfl]
      have a' : s = s' := by
        have : (ioS i env ++ [s])[i]? = (ioS i env ++ [s])[(ioS i env).length]? := by rw [hil]
        rw [this, List.getElem?_concat_length] at a
        exact Option.some.inj a
      have b' : some v = o := by
        have : (vs.map some ++ [some v])[i]? = (vs.map some ++ [some v])[(vs.map some).length]? := by simp [hn]
        rw [this, List.getElem?_concat_length] at b
        exact Option.some.inj b
      subst a' b'
      obtain ⟨o2, q1, q2⟩ := R.at (i := env.length) (s := s) (by simp)
      rw [← hl] at q1
      rw [List.getElem?_concat_length] at q1
      cases q1
      cases st with
      | val d => exact q2
      | own d => exact q2
  · simp [hil] at hi hj
    have f : ∀ (i : Nat) p, i < n → p ∈ (match env[i]? with | some (.io _) => F i | _ => []) → p ∈ F i := fun i p _ z => by
      split at z
      · exact z
      · simp at z
    have hlen : (env ++ [s]).length = env.length + 1 := by simp
    by_cases h1 : i = n
    · by_cases h2 : j = n
      · rw [h1, h2]
      · simp only [h1, if_true] at a; simp only [h2, if_false] at b
        have := R.ap env.length j p (by omega) (by omega) a (f j p (by omega) b)
        omega
    · by_cases h2 : j = n
      · simp only [h2, if_true] at b; simp only [h1, if_false] at a
        have := R.ap i env.length p (by omega) (by omega) (f i p (by omega) a) b
        omega
      · simp only [h1, if_false] at a; simp only [h2, if_false] at b
        exact R.ap i j p (by omega) (by omega) (f i p (by omega) a) (f j p (by omega) b)
theorem okM {x qual : Str} {st : Stmt} {f : Addr} {fd : FuncData} {N ps : List Str} {k : Nat} {S : SpM} (F : Fun K x qual st f fd) (Sc : FnScope N ps (defScope st)) (hl : ∀ as R, S as R → as.length = ps.length)
    (hb : ∀ (cdv : Value) (A : Around) (outer : List Env) (s : Shared) (H : Hp) (E : XK), Room k (A.deeper (PyProof.Rows.envOfC qual (defScope st) s.heap.objs.size f cdv)) →
      ∃ t, PSs (cxOf CX0 Pr wd K mg base N qual (defScope st) f cdv A outer s H E).nox (defBody st) t ∧ ∀ as R, S as R → Wp K t (as ++ List.replicate (N.length - ps.length) .un) { nx := fun e => R (.val .non) (ioS ps.length e), rt := fun s e => R s (ioS ps.length e) }) :
    FnOk Pr wd K mg base CX0 (k + 1) f fd ps (spM K S) := by
  have hvs : ∀ {en : En} {w : Wd} {as : List Sl} {vs : List V} {R : Sl → List Sl → Prop}, Rel K en w as (vs.map some) → S as R → vs.length = ps.length := fun pr sp => by
    have h1 := hl _ _ sp
    have h2 := pr.len
    simp at h2; omega
  have hN : ps.length ≤ N.length := by
    have := congrArg List.length Sc.pre
    simp at this
    omega
  refine F.ok Sc (fun vs H Q E h => ?_) (fun cdv A outer s H vs Q E hr h => ?_)
  · obtain ⟨en, w, as, R, _, _, pr, sp, _⟩ := h
    exact hvs pr sp
  · obtain ⟨t, ht, hw⟩ := hb cdv A outer s H E hr
    refine ⟨t, ht, ?_⟩
    obtain ⟨en, w, as, R, ha, rfl, pr, sp, q⟩ := h
    have hv := hvs pr sp
    have han : ∀ {m : Nat}, en.args.length ≤ m → ps.length ≤ m := fun z => by rw [ha, hv] at z; exact z
    exact hw as R sp en w (L2.start N vs) (rel_start pr hv hN) _
      (fun w' σ' env' sb R' n => q (.val .non) .non w' (ioS ps.length env') (.val _) sb (rel_back (.val _) ha hv R'.len.symm (han R'.an) (R'.push w'.rfl' .non (.val _))) n)
      (fun w' σ' env' _ _ n => n.elim) (fun w' σ' env' _ _ n => n.elim) fun s v w' σ' env' st sb hl' ha' R' z => q s v w' _ st sb (rel_back st ha hv hl' (han ha') R') z
theorem okD {x qual : Str} {st : Stmt} {f : Addr} {fd : FuncData} {N ps : List Str} {k : Nat} {S : SpD} (F : Fun K x qual st f fd) (Sc : FnScope N ps (defScope st)) (hl : ∀ as R, S as R → as.length = ps.length)
    (hb : ∀ (cdv : Value) (A : Around) (outer : List Env) (s : Shared) (H : Hp) (E : XK), Room k (A.deeper (PyProof.Rows.envOfC qual (defScope st) s.heap.objs.size f cdv)) →
      ∃ t, PSs (cxOf CX0 Pr wd K mg base N qual (defScope st) f cdv A outer s H E).nox (defBody st) t ∧ ∀ as R, S as R → Wp K t (as ++ List.replicate (N.length - ps.length) .un) { nx := fun _ => R (.val .non), rt := fun s _ => R s }) :
    FnOk Pr wd K mg base CX0 (k + 1) f fd ps (spD K S) :=
  okM F Sc (fun as R h => hl as _ h) fun cdv A outer s H E hr => by
    obtain ⟨t, ht, hw⟩ := hb cdv A outer s H E hr
    exact ⟨t, ht, fun as R h => wp_imp (hw as _ h) (fun _ z => z _) (fun _ _ z => z _) (fun _ z => z) fun _ z => z⟩
def spLaw : SpD := fun as R => ∃ ns : List Int, as = [.scr (ns.map .int)] ∧ ns.length ≤ 63 ∧ R (.val (.bl true))
theorem law_end {H : Hp} {a : Addr} {ns : List Int} (hl : ns.length ≤ 63) (h : SqL K H a (ns.map V.int)) : spD K spLaw [.ref a] H (fun v _ => v = .bl true) fun _ _ _ => False := by
  refine ⟨⟨⟨H, H, Same.refl _, fun _ _ e => e⟩, [.ref a]⟩, ⟨H, H, Same.refl _, fun _ _ e => e⟩, [.scr (ns.map .int)], fun s _ => s = .val (.bl true), rfl, rfl, ⟨fun _ => [], Wd.rfl' _, rfl, Nat.le_refl _, fun i s o e1 e2 => ?_, fun i j p _ _ z => by simp at z⟩, ⟨ns, rfl, hl, fun _ => rfl⟩, fun s v w' as' st _ R e => ?_⟩
  · cases i with
    | zero => simp at e1 e2; subst e1 e2; exact ⟨rfl, a, _, rfl, h, DrA.ints⟩
    | succ i => simp at e1
  · subst e
    have := Rel.last st R
    cases this
    rfl
end
end DL

set_option Elab.async false
set_option linter.all false
set_option maxRecDepth 100000
set_option autoImplicit false
namespace DL
open PySem L2
/-! ### rules for whatever the kinds are -/
def rAddI : R2 := rI0 fun i j => .int (i + j)
def rSubI : R2 := rI0 fun i j => .int (i - j)
def rAddS : R2 := fun x y H Q => ∃ i j, x = .str i ∧ y = .str j ∧ i.length + j.length ≤ sizeLine ∧ Q (.str (i ++ j)) H
def rOr (r r' : R2) : R2 := fun x y H Q => r x y H Q ∨ r' x y H Q
def rAddG (K : PySem.W.Frag) : R2 := rOr rAddI (rOr rAddS (rOr rCat (rCatA K)))
def rMulG : R2 := rOr (rI CMul fun i j => .int (i * j)) (rOr (rI CMulW fun i j => .int (i * j)) rRep)
def rDivG : R2 := rOr (rI CDiv fun i j => .int (i / j)) (rOr (rI CDivW fun i j => .int (i / j)) (rI CDivN fun i j => .int (i.fdiv j)))
def rModG : R2 := rOr (rI (fun _ j => 0 < j) fun i j => .int (i % j)) (rI (fun _ j => j ≠ 0) fun i j => .int (i.fmod j))
def rPowI : R2 := rI CPow fun i j => .int (i ^ j.toNat)
def rEqG (K : PySem.W.Frag) : R2 := rOr rEq (rEqD K)
def rNeG (K : PySem.W.Frag) : R2 := rOr rNe (rNeD K)
def rLtI : R2 := rI0 fun i j => .bl (decide (i < j))
def rLeI : R2 := rI0 fun i j => .bl (decide (i ≤ j))
def rGtI : R2 := rI0 fun i j => .bl (decide (j < i))
def rGeI : R2 := rI0 fun i j => .bl (decide (j ≤ i))
def rInStr : R2 := fun x y H Q => ∃ i j, x = .str i ∧ y = .str j ∧ Q (.bl (!(Builtin.Str.occurrences j i 0 j.length 1).isEmpty)) H
def rNotInStr : R2 := fun x y H Q => ∃ i j, x = .str i ∧ y = .str j ∧ Q (.bl (!(!(Builtin.Str.occurrences j i 0 j.length 1).isEmpty))) H
/-- in a tuple of data -/
def rInTD (K : PySem.W.Frag) : R2 := fun x y H Q => ∃ d ds, Dp K H x d ∧ Dp K H y (.tuple ds) ∧ SeqAt.shaped d = true ∧ SeqAt.shaped (.tuple ds) = true ∧ Q (.bl (ds.any fun z => PyData.eqv z d)) H
def rNotInTD (K : PySem.W.Frag) : R2 := fun x y H Q => ∃ d ds, Dp K H x d ∧ Dp K H y (.tuple ds) ∧ SeqAt.shaped d = true ∧ SeqAt.shaped (.tuple ds) = true ∧ Q (.bl (!ds.any fun z => PyData.eqv z d)) H
theorem op_inTD {X : Cx} (hu : X.A.units + 65 < cLine) : OpR X (compareOp .In) (rInTD X.K) := by
  intro pins s σ H x y v u Q I rx ry h
  obtain ⟨d, ds, hd, he, sd, se, q⟩ := h
  obtain ⟨as, r1⟩ := Dp.reads I d x v hd rx
  obtain ⟨bs, r2⟩ := Dp.reads I (.tuple ds) y u he ry
  exact SeqAt.in_tuple_reads r2 r1 (SeqAt.canLay_of_shaped se) (SeqAt.canLay_of_shaped sd) (PyProof.Rows.room_in_shaped sd hu) ⟨.bl _, H, I, rfl, q⟩
theorem op_notInTD {X : Cx} (hu : X.A.units + 65 < cLine) : OpR X (compareOp .NotIn) (rNotInTD X.K) := by
  intro pins s σ H x y v u Q I rx ry h
  obtain ⟨d, ds, hd, he, sd, se, q⟩ := h
  obtain ⟨as, r1⟩ := Dp.reads I d x v hd rx
  obtain ⟨bs, r2⟩ := Dp.reads I (.tuple ds) y u he ry
  exact SeqAt.notIn_tuple_reads r2 r1 (SeqAt.canLay_of_shaped se) (SeqAt.canLay_of_shaped sd) (PyProof.Rows.room_in_shaped sd hu) ⟨.bl _, H, I, rfl, q⟩
def rInG (K : PySem.W.Frag) : R2 := rOr (rInD K) (rOr (rIn K false) (rOr rInStr (rInTD K)))
def rNotInG (K : PySem.W.Frag) : R2 := rOr (rNotInD K) (rOr (rIn K true) (rOr rNotInStr (rNotInTD K)))
def rNegI : V → Hp → VK → Prop := rU fun i => .int (-i)
def rAbsI : List V → Hp → VK → Prop := fun xs H Q => ∃ i, xs = [.int i] ∧ Q (.int (if i < 0 then -i else i)) H
def rMax2I : List V → Hp → VK → Prop := fun xs H Q => ∃ i j, xs = [.int i, .int j] ∧ Q (.int (if j > i then j else i)) H
def rMin2I : List V → Hp → VK → Prop := fun xs H Q => ∃ i j, xs = [.int i, .int j] ∧ Q (.int (if j < i then j else i)) H
def rSlG (K : PySem.W.Frag) : V → Option Int → Option Int → Hp → VK → Prop := fun x lo hi H Q => rSlL K x lo hi H Q ∨ (rSlS x lo hi H Q ∨ rSlA K x lo hi H Q)
def rIsiG (K : PySem.W.Frag) : List V → Hp → VK → Prop := rIsi K
section
variable {X : Cx}
variable {K : PySem.W.Frag}
theorem g_add (hK : X.K = K := by rfl) : OpR X (binaryOp .Add) (rAddG K) := hK ▸ op_add.or (op_add_str.or (op_cat.or op_catA))
theorem g_sub : OpR X (binaryOp .Sub) rSubI := op_sub
theorem g_mul : OpR X (binaryOp .Mult) rMulG := op_mul.or (op_mulW.or op_rep)
theorem g_div : OpR X (binaryOp .FloorDiv) rDivG := op_fdiv.or (op_fdivW.or op_fdivN)
theorem g_mod : OpR X (binaryOp .Mod) rModG := op_mod.or op_modN
theorem g_pow : OpR X (binaryOp .Pow) rPowI := op_pow
theorem g_eq (hu : X.A.units + 64 < cLine) (hK : X.K = K := by rfl) : OpR X (compareOp .Eq) (rEqG K) := hK ▸ op_eq.or (op_eqD hu)
theorem g_ne (hu : X.A.units + 64 < cLine) (hK : X.K = K := by rfl) : OpR X (compareOp .NotEq) (rNeG K) := hK ▸ op_ne.or (op_neD hu)
theorem g_lt : OpR X (compareOp .Lt) rLtI := op_lt
theorem g_le : OpR X (compareOp .LtE) rLeI := op_le
theorem g_gt : OpR X (compareOp .Gt) rGtI := op_gt
theorem g_ge : OpR X (compareOp .GtE) rGeI := op_ge
theorem g_in (hu : X.A.units + 65 < cLine) (hK : X.K = K := by rfl) : OpR X (compareOp .In) (rInG K) := hK ▸ (op_inD hu).or (op_in_seq.or (op_in_str.or (op_inTD hu)))
theorem g_notIn (hu : X.A.units + 65 < cLine) (hK : X.K = K := by rfl) : OpR X (compareOp .NotIn) (rNotInG K) := hK ▸ (op_notInD hu).or (op_notIn_seq.or (op_notIn_str.or (op_notInTD hu)))
theorem g_is : OpR X (compareOp .Is) rIsN0 := op_isN
theorem g_isnot : OpR X (compareOp .IsNot) rNotN0 := op_notN
theorem g_neg : UnR X (unaryOp .USub) rNegI := un_neg
theorem g_ix (hK : X.K = K := by rfl) : IxR X (rIx K) := hK ▸ ix_seq
theorem g_sl (hK : X.K = K := by rfl) : SlR X (rSlG K) := hK ▸ sl_list.or (sl_str.or sl_tupA)
theorem b_len (hK : X.K = K := by rfl) : CallR X (.builtin "len") (rLenG K) := hK ▸ call_len
theorem b_abs : CallR X (.builtin "abs") rAbsI := call_abs
theorem b_int : CallR X (.type "int") rInt1 := call_int1
theorem b_max (hc : X.calm = true) : CallR X (.builtin "max") rMax2I := call_max2 hc
theorem b_min (hc : X.calm = true) : CallR X (.builtin "min") rMin2I := call_min2 hc
theorem b_sum (hc : X.calm = true) (hK : X.K = K := by rfl) : CallR X (.builtin "sum") (rSum K) := hK ▸ cr_sum hc
theorem b_sortedI (hK : X.K = K := by rfl) : CallR X (.builtin "sorted") (rSortedI K) := hK ▸ cr_sortedI
theorem b_list (hK : X.K = K := by rfl) : CallR X (.type "list") (rListG K) := hK ▸ call_list_of
theorem b_tuple (hK : X.K = K := by rfl) : CallR X (.type "tuple") (rTupG K) := hK ▸ call_tuple_of
theorem b_isi (hK : X.K = K := by rfl) : CallR X (.builtin "isinstance") (rIsiG K) := hK ▸ call_isi
theorem hu64 {k : Nat} {A : Around} (r : Room k A) : A.units + 64 < cLine := r.units
theorem hu65 {k : Nat} {A : Around} (r : Room k A) : A.units + 65 < cLine := by have := r.un; omega
theorem pt_tr {a : Expr} {ta : TE} (ha : PE X a ta) (he : ∀ whole, isTrue a X.env whole = (do let v ← whole; standAt a.pos; holding [v] (truthy v))) (hK : X.K = K := by rfl) : PT X a (tTruth K ta) := hK ▸ pt_truth ha he
theorem pi_seqK {tg l : Expr} {tl : TE} (hl : PE X l tl) (hK : X.K = K := by rfl) : PI X tg l (iSeq K tl) := hK ▸ pi_seq hl
theorem pg_tupK {es : List Expr} {k : Nat} {t : TGs} {n : Nat} {pos : Pos} (hc : X.calm = true) (h : PGs X es t) (hn : (assignEach es X.env).length = n := by rfl) (hst : (assignEach es X.env).findIdx? (·.1) = none := by rfl) (hK : X.K = K := by rfl) : PG X (.Tuple es k pos) (gTup K n t) := hK ▸ pg_tup hc h hn hst
theorem pe_fldK {e : Expr} {f : Str} {pos : Pos} {ta : TE} (he : PE X e ta) (hb : attributeBase e f X.env (eval e X.env) = eval e X.env) (hK : X.K = K := by rfl) : PE X (.Attribute e f pos) (tFld K ta f) := hK ▸ pe_fld he hb
theorem pe_revLK {e : Expr} {te : TE} {k : Nat} {p1 p2 p3 pos : Pos} (he : PE X e te) (hK : X.K = K := by rfl) : PE X (.Subscript e (.Slice none none (some (.UnaryOp .USub (.Constant (.int 1) k p1) p2)) p3) pos) (tRevL K te) := hK ▸ pe_revL he
/-! ### calls of defs -/
/-- the def that the module's name x is -/
structure Cal (Pr : Program) (wd : World) (K : PySem.W.Frag) (mg : Str → Option Value) (base : Heap) (x : Str) (k : Nat) (ps : List Str) (sp : Sp) : Prop where
  ex : ∃ f fd, FnOk Pr wd K mg base CX0 k f fd ps sp ∧ mg x = some (.ref f) ∧ PySem.W.keepIn K (.ref f) = true ∧ Binds K fd ps []
theorem pe_cal {x : Str} {k : Nat} {ps : List Str} {sp : Sp} {p pos : Pos} {e : Expr} {es : List Expr} {t : TA} (C : Cal X.prog X.w X.K X.mg X.base x k ps sp) (hr : Room k X.A) (hg : Gl X x) (ha : PA X (e :: es) t)
    (hdb : (x == ("__debug__" : Str)) = false := by decide) (he : starEach (e :: es) X.env = (false, eval e X.env) :: starEach es X.env := by rfl) (hpl : (backTo pos (starEach es X.env)).any (·.1) = false := by rfl) :
    PE X (.Call (.Name x p) (e :: es) [] pos) (tCall sp [] E0 t) := by
  obtain ⟨f, fd, F, hm, hk, hb⟩ := C.ex
  exact pe_call F hr hg hm hk hb .nil pass0 ha hdb he hpl
theorem pe_cal0 {x : Str} {k : Nat} {ps : List Str} {sp : Sp} {p pos : Pos} (C : Cal X.prog X.w X.K X.mg X.base x k ps sp) (hr : Room k X.A) (hg : Gl X x)
    (hdb : (x == ("__debug__" : Str)) = false := by decide) : PE X (.Call (.Name x p) [] [] pos) (tCall sp [] E0 tNil) := by
  obtain ⟨f, fd, F, hm, hk, hb⟩ := C.ex
  exact pe_call0 F hr hg hm hk hb .nil pass0 hdb
end
section
variable {K : PySem.W.Frag} {env : List Sl} {P P' : Sl → Prop} {w w' w'' : Wd}
theorem rv_L {r r' : R2} {s t : Sl} (h : RvP K r s t P) : RvP K (rOr r r') s t P := fun w wx x y e r1 r2 Q q => .inl (h w wx x y e r1 r2 Q q)
theorem rv_R {r r' : R2} {s t : Sl} (h : RvP K r' s t P) : RvP K (rOr r r') s t P := fun w wx x y e r1 r2 Q q => .inr (h w wx x y e r1 r2 Q q)
theorem d_addI {i j : Int} (p : P (.val (.int (i + j)))) : RvP K (rAddG K) (.val (.int i)) (.val (.int j)) P := rv_L (rv_i0 (g := fun i j => i + j) p)
theorem d_addS {i j : Str} (hl : i.length + j.length ≤ 1000000) (p : P (.val (.str (i ++ j)))) : RvP K (rAddG K) (.val (.str i)) (.val (.str j)) P := rv_R (rv_L fun w wx x y e r1 r2 Q q => by
  cases r1; cases r2
  exact ⟨i, j, rfl, rfl, Nat.le_trans hl (by decide), q _ _ wx wx.rfl' p (.str _)⟩)
/-- lists that stand in the heap -/
inductive LtS : Sl → List D → Prop
  | val {ds : List D} : LtS (.val (.lst ds)) ds
  | bor {ds : List D} : LtS (.bor ds) ds
  | own {ds : List D} : LtS (.own (oL ds)) ds
theorem LtS.ok {s : Sl} {ds : List D} {v : V} (l : LtS s ds) (h : SlN K w w' s v) : ∃ p xs, v = .ref p ∧ w'.H p = some (.lst xs) ∧ DrA K w'.B ds xs := by
  cases l with
  | val => cases h with | lst h1 r => exact ⟨_, _, rfl, w'.sub _ _ h1, r⟩
  | bor => obtain ⟨p, xs, rfl, h1, h2⟩ := h; exact ⟨p, xs, rfl, h1, h2⟩
  | own => obtain ⟨fp, h, _⟩ := h; obtain ⟨p, xs, rfl, _, h1, r⟩ := h.oL_inv; exact ⟨p, _, rfl, h1, r⟩
theorem d_addL {s t : Sl} {ds es : List D} (h1 : LtS s ds) (h2 : LtS t es) (hl : ds.length + es.length ≤ 1000000) (p : P (.own (oL (ds ++ es)))) : RvP K (rAddG K) s t P := rv_R (rv_R (rv_L fun w wx x y e r1 r2 Q q => by
  obtain ⟨a, xs, rfl, ha, ra⟩ := h1.ok r1
  obtain ⟨b, ys, rfl, hb, rb⟩ := h2.ok r2
  exact ⟨a, b, xs, ys, rfl, rfl, ha, hb, (by rw [← ra.len, ← rb.len]; exact Nat.le_trans hl (by decide)), fun l hl => q _ _ (wx.lay l _ hl) (Wd.le_lay hl) p (own_new e hl (ra.append rb))⟩))
theorem d_addT {ds es : List D} (hl : ds.length + es.length ≤ 1000000) (p : P (.val (.tup (ds ++ es)))) : RvP K (rAddG K) (.val (.tup ds)) (.val (.tup es)) P := rv_R (rv_R (rv_R fun w wx x y e r1 r2 Q q => by
  cases r1 with
  | @tup a xs _ ha ra =>
    cases r2 with
    | @tup b ys _ hb rb =>
      have l1 := ra.len
      have l2 := rb.len
      have e1 : ∀ {zs : List D} {us : List V}, DrA K wx.B zs us → us = [] → zs = [] := fun r e => by subst e; cases r; rfl
      refine ⟨a, b, xs, ys, rfl, rfl, sameT wx.sub ha, sameT wx.sub hb, (by rw [← l1, ← l2]; exact Nat.le_trans hl (by decide)), fun e => ?_, fun _ e => ?_, fun _ _ l hl => ?_⟩
      · have := e1 ra e; subst this
        exact q _ _ wx wx.rfl' p (show Dr K wx.B (.tup ([] ++ es)) (.ref b) from Dr.tup hb rb)
      · have := e1 rb e; subst this
        exact q _ _ wx wx.rfl' p (show Dr K wx.B (.tup (ds ++ [])) (.ref a) by rw [List.append_nil]; exact Dr.tup ha ra)
      · exact q _ _ (wx.new l _ hl) (Wd.le_new hl) p (Dr.tup (.inl (.inl upd_same)) ((ra.append rb).mono (Wd.le_new hl).b))))
theorem d_sub {i j : Int} (p : P (.val (.int (i - j)))) : RvP K rSubI (.val (.int i)) (.val (.int j)) P := rv_i0 (g := fun i j => i - j) p
theorem d_mul {i j : Int} (c : CMul i j) (p : P (.val (.int (i * j)))) : RvP K rMulG (.val (.int i)) (.val (.int j)) P := rv_L (rv_i (g := fun i j => i * j) c p)
theorem d_mulW {i j : Int} (c : CMulW i j) (p : P (.val (.int (i * j)))) : RvP K rMulG (.val (.int i)) (.val (.int j)) P := rv_R (rv_L (rv_i (g := fun i j => i * j) c p))
theorem d_div {i j : Int} (c : 0 < j ∧ j < 1073741824) (p : P (.val (.int (i / j)))) : RvP K rDivG (.val (.int i)) (.val (.int j)) P := rv_L (rv_i (g := fun i j => i / j) c p)
theorem d_divW {i j : Int} (c : CDivW i j) (p : P (.val (.int (i / j)))) : RvP K rDivG (.val (.int i)) (.val (.int j)) P := rv_R (rv_L (rv_i (g := fun i j => i / j) c p))
theorem d_mod {i j : Int} (c : 0 < j) (p : P (.val (.int (i % j)))) : RvP K rModG (.val (.int i)) (.val (.int j)) P := rv_L (rv_i (C := fun _ j => 0 < j) (g := fun i j => i % j) c p)
theorem d_pow {i j : Int} (c : CPow i j) (p : P (.val (.int (i ^ j.toNat)))) : RvP K rPowI (.val (.int i)) (.val (.int j)) P := rv_i (g := fun i j => i ^ j.toNat) c p
theorem d_neg {i : Int} (p : P (.val (.int (-i)))) : RuP K rNegI (.val (.int i)) P := ru_neg p
theorem d_eqI {i j : Int} (p : P (.val (.bl (decide (i = j))))) : RvP K (rEqG K) (.val (.int i)) (.val (.int j)) P := rv_L (rv_eqI p)
theorem d_neI {i j : Int} (p : P (.val (.bl (!decide (i = j))))) : RvP K (rNeG K) (.val (.int i)) (.val (.int j)) P := rv_L (rv_neI p)
theorem d_eqS {i j : Str} (p : P (.val (.bl (decide (i = j))))) : RvP K (rEqG K) (.val (.str i)) (.val (.str j)) P := rv_L (rv_eqS p)
theorem d_neS {i j : Str} (p : P (.val (.bl (!decide (i = j))))) : RvP K (rNeG K) (.val (.str i)) (.val (.str j)) P := rv_L (rv_neS p)
theorem d_eqD {s t : Sl} {d e : D} (n m : Nat) (hs : ToD s d) (ht : ToD t e) (pd : Pl n d) (pe : Pl m e) (hn : n ≤ 64) (hm : m ≤ 64) (p : P (.val (.bl (eqD d e)))) : RvP K (rEqG K) s t P := rv_R (rv_eqD hs ht pd pe hn hm p)
theorem d_neD {s t : Sl} {d e : D} (n m : Nat) (hs : ToD s d) (ht : ToD t e) (pd : Pl n d) (pe : Pl m e) (hn : n ≤ 64) (hm : m ≤ 64) (p : P (.val (.bl (!eqD d e)))) : RvP K (rNeG K) s t P := rv_R (rv_neD hs ht pd pe hn hm p)
theorem d_lt {i j : Int} (p : P (.val (.bl (decide (i < j))))) : RvP K rLtI (.val (.int i)) (.val (.int j)) P := rv_b0 (g := fun i j => decide (i < j)) p
theorem d_le {i j : Int} (p : P (.val (.bl (decide (i ≤ j))))) : RvP K rLeI (.val (.int i)) (.val (.int j)) P := rv_b0 (g := fun i j => decide (i ≤ j)) p
theorem d_gt {i j : Int} (p : P (.val (.bl (decide (j < i))))) : RvP K rGtI (.val (.int i)) (.val (.int j)) P := rv_b0 (g := fun i j => decide (j < i)) p
theorem d_ge {i j : Int} (p : P (.val (.bl (decide (j ≤ i))))) : RvP K rGeI (.val (.int i)) (.val (.int j)) P := rv_b0 (g := fun i j => decide (j ≤ i)) p
theorem any_eqD (ds : List D) (d : D) : ((toPys ds).any fun z => PyData.eqv z (toPy d)) = ds.any fun e => eqD e d := by
  rw [toPys_map, List.any_map]; rfl
theorem d_in {s t : Sl} {d : D} {ds : List D} (n m : Nat) (hs : ToD s d) (ht : ToD t (.lst ds)) (pd : Pl n d) (pe : Pl m (.lst ds)) (hn : n ≤ 64) (hm : m ≤ 64) (p : P (.val (.bl (ds.any fun e => eqD e d)))) : RvP K (rInG K) s t P := rv_L fun w wx x y _ r1 r2 Q q =>
  ⟨toPy d, toPys ds, hs.dp r1 pd, ht.dp r2 pe, pd.shaped hn, pe.shaped hm, by rw [any_eqD]; exact q _ _ wx wx.rfl' p (.bl _)⟩
theorem d_inT {s t : Sl} {d : D} {ds : List D} (n m : Nat) (hs : ToD s d) (ht : ToD t (.tup ds)) (pd : Pl n d) (pe : Pl m (.tup ds)) (hn : n ≤ 64) (hm : m ≤ 64) (p : P (.val (.bl (ds.any fun e => eqD e d)))) : RvP K (rInG K) s t P := rv_R (rv_R (rv_R fun w wx x y _ r1 r2 Q q =>
  ⟨toPy d, toPys ds, hs.dp r1 pd, ht.dp r2 pe, pd.shaped hn, pe.shaped hm, by rw [any_eqD]; exact q _ _ wx wx.rfl' p (.bl _)⟩))
theorem d_notInT {s t : Sl} {d : D} {ds : List D} (n m : Nat) (hs : ToD s d) (ht : ToD t (.tup ds)) (pd : Pl n d) (pe : Pl m (.tup ds)) (hn : n ≤ 64) (hm : m ≤ 64) (p : P (.val (.bl (!ds.any fun e => eqD e d)))) : RvP K (rNotInG K) s t P := rv_R (rv_R (rv_R fun w wx x y _ r1 r2 Q q =>
  ⟨toPy d, toPys ds, hs.dp r1 pd, ht.dp r2 pe, pd.shaped hn, pe.shaped hm, by rw [any_eqD]; exact q _ _ wx wx.rfl' p (.bl _)⟩))
theorem d_notIn {s t : Sl} {d : D} {ds : List D} (n m : Nat) (hs : ToD s d) (ht : ToD t (.lst ds)) (pd : Pl n d) (pe : Pl m (.lst ds)) (hn : n ≤ 64) (hm : m ≤ 64) (p : P (.val (.bl (!ds.any fun e => eqD e d)))) : RvP K (rNotInG K) s t P := rv_L fun w wx x y _ r1 r2 Q q =>
  ⟨toPy d, toPys ds, hs.dp r1 pd, ht.dp r2 pe, pd.shaped hn, pe.shaped hm, by rw [any_eqD]; exact q _ _ wx wx.rfl' p (.bl _)⟩
theorem d_slL {s : Sl} {ds : List D} {lo hi : Option Int} (l : LsS s ds) (p : P (.own (oL (cutD ds lo hi)))) : RsP K (rSlG K) s lo hi P := fun w wx x e r Q q => .inl (rs_list l p w wx x e r Q q)
theorem d_slS {z : Str} {lo hi : Option Int} (hz : z.length ≤ 1000000) (p : P (.val (.str (cutS z lo hi)))) : RsP K (rSlG K) (.val (.str z)) lo hi P := fun w wx x e r Q q => .inr (.inl (rs_str hz p w wx x e r Q q))
theorem d_slT {ds : List D} {lo hi : Option Int} (p : P (.val (.tup (cutD ds lo hi)))) : RsP K (rSlG K) (.val (.tup ds)) lo hi P := fun w wx x e r Q q => .inr (.inr (by
  cases r with
  | @tup a xs _ ha ra =>
    refine ⟨a, xs, rfl, sameT wx.sub ha, fun hw => ?_, fun _ l hl => ?_⟩
    · have : cutD ds lo hi = ds := by
        unfold cutD
        rw [ra.len, hw.1, hw.2, List.drop_zero, ← ra.len]
        simp
      rw [this] at p
      exact q _ _ wx wx.rfl' p (.tup ha ra)
    · exact q _ _ (wx.new l _ hl) (Wd.le_new hl) p (Dr.tup (.inl (.inl upd_same)) ((cut_ok ra).mono (Wd.le_new hl).b))))
/-- xs[::-1] -/
theorem ev_rev {te : TE} (h : EvE K te env fun s => ∃ ds, LsS s ds ∧ P (.own (oL ds.reverse))) : EvE K (tRevL K te) env P := fun en w σ R Q q =>
  h en w σ R _ fun s v w1 e1 h1 r1 => by
    obtain ⟨ds, l, p⟩ := h1
    obtain ⟨a, xs, rfl, h2, h3⟩ := l.ok r1
    have rr : DrA K w1.B ds.reverse xs.reverse := by
      clear h2 q p l r1
      induction ds generalizing xs with
      | nil => cases h3; exact .nil
      | cons d r ih => cases h3 with | cons a b => rw [List.reverse_cons, List.reverse_cons]; exact (ih _ b).snoc a
    exact ⟨a, xs, rfl, h2, fun l hl => q _ _ (w1.lay l _ hl) (e1.trans (Wd.le_lay hl)) p (own_new e1 hl rr)⟩
/-! ### truth -/
theorem bne_len (n : Nat) : ((n : Int) != 0) = (n != 0) := by
  cases n with
  | zero => rfl
  | succ n =>
    have : (((n + 1 : Nat) : Int) != 0) = true := by
      rw [bne_iff_ne]; omega
    rw [this]; rfl
theorem isEmpty_dr {B : Hp} {ds : List D} {xs : List V} (r : DrA K B ds xs) : xs.isEmpty = ds.isEmpty := by cases r <;> rfl
theorem et_tr {te : TE} {Pb : Bool → Prop} (h : EvE K te env fun s => ∃ b, TruS s b ∧ (∀ x, s = .val (.str x) → x.length ≤ 1000000) ∧ Pb b) : EvT K (tTruth K te) env Pb := fun en w σ R Q q =>
  h en w σ R _ fun s v w1 e1 h1 r1 => by
    obtain ⟨b, t, hz, p⟩ := h1
    refine ⟨b, ?_, q b w1 e1 p⟩
    cases s with
    | un => cases t
    | val d =>
      cases r1 with
      | non => exact t
      | bl c => exact t
      | int i => exact t
      | str x => exact ⟨Nat.le_trans (hz x rfl) (by decide), by rw [bne_len]; exact t⟩
      | lst ha r => exact .inl ⟨_, .inl (.inl (w1.sub _ _ ha)), by rw [isEmpty_dr r]; exact t⟩
      | tup ha r => exact .inr (.inl ⟨_, sameT w1.sub ha, by rw [isEmpty_dr r]; exact t⟩)
      | obj _ _ => cases t
      | ref _ => cases t
      | ty _ => cases t
      | kt _ => cases t
      | dK _ _ _ => cases t
      | dT _ _ _ => cases t
      | exc _ _ => cases t
    | bor ds => obtain ⟨p, xs, rfl, h1, r⟩ := r1; exact .inl ⟨_, .inl (.inl h1), by rw [isEmpty_dr r]; exact t⟩
    | scr ds => obtain ⟨p, xs, rfl, h1, r⟩ := r1; exact .inl ⟨_, h1, by rw [isEmpty_dr r]; exact t⟩
    | io _ => cases t
    | brt od =>
      obtain ⟨ds, rfl, t⟩ := t
      obtain ⟨fp, r1⟩ := r1
      obtain ⟨p, xs, rfl, _, h1, r⟩ := r1.oL_inv
      exact .inl ⟨_, .inl (.inl h1), by rw [isEmpty_dr r]; exact t⟩
    | own od =>
      obtain ⟨ds, rfl, t⟩ := t
      obtain ⟨fp, r1, _⟩ := r1
      obtain ⟨p, xs, rfl, _, h1, r⟩ := r1.oL_inv
      exact .inl ⟨_, .inl (.inl h1), by rw [isEmpty_dr r]; exact t⟩
/-- a test that is a bool's truth -/
theorem et_trB {te : TE} {Pb : Bool → Prop} (h : EvE K te env fun s => ∃ b, s = .val (.bl b) ∧ Pb b) : EvT K (tTruth K te) env Pb := et_tr (h.imp fun s ⟨b, e, p⟩ => ⟨b, by subst e; rfl, fun x z => (by subst e; cases z), p⟩)
/-! ### isinstance -/
def tyD : D → Option String
  | .non => some "NoneType" | .bl _ => some "bool" | .int _ => some "int" | .str _ => some "str" | .lst _ => some "list" | .tup _ => some "tuple" | .kt _ => some "tuple" | .dK _ => some "dict" | _ => none
def tyS : Sl → Option String
  | .val d => tyD d | .own (.lst _) => some "list" | .own (.tup _) => some "tuple" | .bor _ => some "list" | .brt (.lst _) => some "list" | .brt (.tup _) => some "tuple" | _ => none
theorem tyD_ok {d : D} {v : V} {n : String} (r : Dr K w.B d v) (h : tyD d = some n) : TyX K w.H v (.type n) := by
  cases r with
  | non => cases h; exact .base .non
  | bl b => cases h; exact .base (.bl b)
  | int b => cases h; exact .base (.int b)
  | str b => cases h; exact .base (.str b)
  | lst ha r => cases h; exact .base (.lst (w.sub _ _ ha))
  | tup ha r =>
    cases h
    rcases ha with (ha | ⟨o, ha⟩) | ⟨o, its, m, k1, k2, _⟩
    · exact .base (.tup (w.sub _ _ ha))
    · exact .fTuple (w.sub _ _ ha)
    · exact .kTuple k1 k2
  | obj _ _ => cases h
  | ref _ => cases h
  | ty _ => cases h
  | kt e => cases h; exact .base (.tup (w.sub _ _ e))
  | dK e _ _ => cases h; exact .fDict (w.sub _ _ e)
  | dT _ _ _ => cases h
  | exc _ _ => cases h
theorem ra_isi {s : Sl} {n m : String} {b : Bool} (h : tyS s = some n) (hk : kitB n m = some b) (p : P (.val (.bl b))) : RaP K (rIsiG K) [s, .val (.ty m)] P := fun w wx vs _ r Q q => by
  cases r with
  | cons r t =>
    cases t with
    | cons r2 t =>
      cases t
      cases r2
      refine ⟨_, _, _, _, b, rfl, .ty m, ?_, kit_ty hk, q _ _ wx wx.rfl' p (.bl _)⟩
      cases s with
      | val d => exact tyD_ok r h
      | own od =>
        cases od with
        | lst ds =>
          cases h
          obtain ⟨fp, r, _⟩ := r
          cases r with | lst h1 _ => exact .base (.lst h1)
        | tup ds =>
          cases h
          obtain ⟨fp, r, _⟩ := r
          cases r with | tup h1 _ => exact .base (.tup h1)
        | imm _ => cases h
        | ins _ _ => cases h
        | dK _ => cases h
        | dT _ => cases h
      | io _ => cases h
      | bor ds => cases h; obtain ⟨p, xs, rfl, h1, r⟩ := r; exact .base (.lst h1)
      | un => cases h
      | scr _ => cases h
      | brt od =>
        cases od with
        | lst ds =>
          cases h
          obtain ⟨fp, r⟩ := r
          cases r with | lst h1 _ => exact .base (.lst h1)
        | tup ds =>
          cases h
          obtain ⟨fp, r⟩ := r
          cases r with | tup h1 _ => exact .base (.tup h1)
        | imm _ => cases h
        | ins _ _ => cases h
        | dK _ => cases h
        | dT _ => cases h
theorem d_abs {i : Int} (p : P (.val (.int (if i < 0 then -i else i)))) : RaP K rAbsI [.val (.int i)] P := ra_abs p
theorem d_max {i j : Int} (p : P (.val (.int (if j > i then j else i)))) : RaP K rMax2I [.val (.int i), .val (.int j)] P := ra_max p
theorem d_min {i j : Int} (p : P (.val (.int (if j < i then j else i)))) : RaP K rMin2I [.val (.int i), .val (.int j)] P := ra_min p
/-! ### the same, for the walk -/
theorem x_val {i : Nat} (h : ∃ d, env[i]? = some (.val d) ∧ P (.val d)) : EvE K (tVar i) env P := let ⟨_, a, b⟩ := h; ev_val a b
theorem x_own {i : Nat} (h : ∃ ds, env[i]? = some (.own (oL ds)) ∧ P (.bor ds)) : EvE K (tVar i) env P := let ⟨_, a, b⟩ := h; ev_own a b
theorem x_ownT {i : Nat} (h : ∃ t, env[i]? = some (.own t) ∧ P (.brt t)) : EvE K (tVar i) env P := let ⟨_, a, b⟩ := h; ev_ownT a b
theorem x_ioT {i : Nat} (h : ∃ t, env[i]? = some (.io t) ∧ P (.brt t)) : EvE K (tVar i) env P := let ⟨_, a, b⟩ := h; ev_ioT a b
theorem x_brt {i : Nat} (h : ∃ t, env[i]? = some (.brt t) ∧ P (.brt t)) : EvE K (tVar i) env P := let ⟨_, a, b⟩ := h; ev_brt a b
theorem x_lenTt {s : Sl} (h : ∃ xs, TtS s xs ∧ P (.val (.int xs.length))) : RaP K (rLenG K) [s] P := let ⟨_, a, b⟩ := h; ra_lenTt a b
theorem x_retT2 {i : Nat} {te : TE} {Pp : Post} (h : ∃ o, env[i]? = some (.own o) ∧ o.nd = true ∧ EvE K te (env.set i .un) fun s => ∃ d, s = .val d ∧ Pp.rt (.own (.tup [o, .imm d])) (env.set i .un)) : Wp K (tRet (tTup (tCons (tVar i) (tCons te tNil)))) env Pp := let ⟨_, a, n, b⟩ := h; wp_retT2 a n b
theorem x_bor {i : Nat} (h : ∃ ds, env[i]? = some (.bor ds) ∧ P (.bor ds)) : EvE K (tVar i) env P := let ⟨_, a, b⟩ := h; ev_bor a b
theorem x_scr {i : Nat} (h : ∃ ds, env[i]? = some (.scr ds) ∧ P (.scr ds)) : EvE K (tVar i) env P := let ⟨_, a, b⟩ := h; ev_scr a b
theorem x_lenL {s : Sl} (h : ∃ ds, LsS s ds ∧ P (.val (.int ds.length))) : RaP K (rLenG K) [s] P := let ⟨_, a, b⟩ := h; ra_lenL a b
theorem x_isi {s : Sl} {m : String} (h : ∃ n, tyS s = some n ∧ (kitB n m).isSome = true ∧ P (.val (.bl ((kitB n m).getD false)))) : RaP K (rIsiG K) [s, .val (.ty m)] P := by
  obtain ⟨n, a, b, c⟩ := h
  cases e : kitB n m with
  | none => rw [e] at b; cases b
  | some r => rw [e] at c; exact ra_isi a e c
theorem x_slL {s : Sl} {lo hi : Option Int} (h : ∃ ds, LsS s ds ∧ P (.own (oL (cutD ds lo hi)))) : RsP K (rSlG K) s lo hi P := let ⟨_, a, b⟩ := h; d_slL a b
theorem x_list {s : Sl} (h : ∃ ds, LsS s ds ∧ P (.own (oL ds))) : RaP K (rListG K) [s] P := let ⟨_, a, b⟩ := h; ra_listL a b
theorem x_tup {s : Sl} (h : ∃ ds, LsS s ds ∧ P (.val (.tup ds))) : RaP K (rTupG K) [s] P := let ⟨_, a, b⟩ := h; ra_tupL a b
theorem x_app {i : Nat} {te : TE} {Pp : Post} (h : ∃ ds, env[i]? = some (.own (oL ds)) ∧ ds.length < 1000000 ∧ EvE K te env fun s => ∃ d, Frz s d ∧ Pp.nx (env.set i (.own (oL (ds ++ [d]))))) :
    Wp K (tDrop (tBM K "list" rAppend (tVar i) (tCons te tNil))) env Pp := let ⟨_, a, b, c⟩ := h; wp_app a b c
theorem x_setL {i : Nat} {te ti : TE} {Pp : Post} (h : ∃ ds, env[i]? = some (.own (oL ds)) ∧ EvE K te env fun s => ∃ d, Frz s d ∧ EvE K ti env fun s2 => ∃ k j, s2 = .val (.int k) ∧ ixN ds.length k = some j ∧ j < ds.length ∧ Pp.nx (env.set i (.own (oL (ds.set j d))))) :
    Wp K (tAsg te (gSub (tVar i) ti rSetL)) env Pp := let ⟨_, a, b⟩ := h; wp_setL a b
theorem x_retOwn {i : Nat} {Pp : Post} (h : ∃ o, env[i]? = some (.own o) ∧ Pp.rt (.own o) (env.set i .un)) : Wp K (tRet (tVar i)) env Pp := let ⟨_, a, b⟩ := h; wp_retOwn a b
theorem atI_of {α : Type} {xs : List α} {k : Int} {x : α} (h0 : 0 ≤ k) (h : xs[k.toNat]? = some x) : atI xs k = some x := by
  have := atI_nat h
  rwa [Int.toNat_of_nonneg h0] at this
/-- an item at a place in bounds, of a list of ints -/
theorem atI_ints {ns : List Int} {k : Int} (h0 : 0 ≤ k) (h1 : k < ns.length) : atI (ns.map D.int) k = some (.int (ns.getD k.toNat 0)) := by
  refine atI_of h0 ?_
  have : k.toNat < ns.length := by omega
  rw [List.getElem?_map, List.getElem?_eq_getElem this, List.getD_eq_getElem?_getD, List.getElem?_eq_getElem this]
  rfl
theorem getD_mem {ns : List Int} {p : Int → Prop} (h : ∀ n ∈ ns, p n) {k : Nat} (hk : k < ns.length) : p (ns.getD k 0) := by
  rw [List.getD_eq_getElem?_getD, List.getElem?_eq_getElem hk]
  exact h _ (List.getElem_mem hk)
/-- the items of a display -/
def EvV (K : PySem.W.Frag) (tA : TA) (env : List Sl) (Pd : List D → Prop) : Prop := EvA K tA env fun ss => ∃ ds : List D, ss = ds.map .val ∧ Pd ds
theorem evv_nil {Pd : List D → Prop} (p : Pd []) : EvV K tNil env Pd := eva_nil ⟨[], rfl, p⟩
theorem evv_cons {Pd : List D → Prop} {ta : TE} {tB : TA} (h : EvE K ta env fun s => ∃ d, Frz s d ∧ EvV K tB env fun ds => Pd (d :: ds)) : EvV K (tCons ta tB) env Pd :=
  eva_cons (ev_frz (P := fun s => EvA K tB env fun ss => ∃ ds : List D, s :: ss = ds.map .val ∧ Pd ds) (h.imp fun s ⟨d, e, z⟩ => ⟨d, e, EvA.imp z fun ss ⟨ds, e2, p⟩ => ⟨d :: ds, by rw [e2]; rfl, p⟩⟩))
theorem x_tupD {tA : TA} (h : EvV K tA env fun ds => ds.length ≤ 1000 ∧ P (.val (.tup ds))) : EvE K (tTup tA) env P := ev_tup (EvA.imp h fun _ ⟨ds, e, a, b⟩ => ⟨ds, e, a, b⟩)
theorem x_lstD {tA : TA} (h : EvV K tA env fun ds => ds.length ≤ 1000 ∧ P (.own (oL ds))) : EvE K (tLst tA) env P := ev_lst (EvA.imp h fun _ ⟨ds, e, a, b⟩ => ⟨ds, e, a, b⟩)
theorem cmul_l {i j : Int} (h1 : -18446744073709551616 < i) (h2 : i < 18446744073709551616) : CMul i j := .inl ⟨by omega, by omega⟩
theorem cmul_r {i j : Int} (h1 : -18446744073709551616 < j) (h2 : j < 18446744073709551616) : CMul i j := .inr ⟨by omega, by omega⟩
theorem d_mulL {i j : Int} (h1 : -18446744073709551616 < i) (h2 : i < 18446744073709551616) (p : P (.val (.int (i * j)))) : RvP K rMulG (.val (.int i)) (.val (.int j)) P := d_mul (cmul_l h1 h2) p
theorem d_mulR {i j : Int} (h1 : -18446744073709551616 < j) (h2 : j < 18446744073709551616) (p : P (.val (.int (i * j)))) : RvP K rMulG (.val (.int i)) (.val (.int j)) P := d_mul (cmul_r h1 h2) p
theorem d_div' {i j : Int} (c : 0 < j) (c2 : j < 1073741824) (p : P (.val (.int (i / j)))) : RvP K rDivG (.val (.int i)) (.val (.int j)) P := d_div ⟨c, c2⟩ p
theorem d_pow' {i j : Int} (c : 0 ≤ j) (c1 : j ≤ 1000000) (c2 : i.natAbs < 18446744073709551616) (p : P (.val (.int (i ^ j.toNat)))) : RvP K rPowI (.val (.int i)) (.val (.int j)) P := d_pow ⟨c, c1, c2⟩ p
theorem rng_at {lo : Int} {n i : Nat} {d : D} (h : (rngD lo n)[i]? = some d) : i < n ∧ d = .int (lo + (i : Int)) := by
  have hi := (List.getElem?_eq_some_iff.mp h).1
  simp only [rngD, List.length_map, List.length_range] at hi
  simp only [rngD, List.getElem?_map, List.getElem?_range hi, Option.map_some, Option.some.injEq] at h
  exact ⟨hi, h.symm⟩
theorem rng_len {lo : Int} {n : Nat} : (rngD lo n).length = n := by simp [rngD]
end
end DL

set_option Elab.async false
set_option linter.all false
set_option maxRecDepth 100000
set_option autoImplicit false
namespace DL
open PySem L2
section
variable {K : PySem.W.Frag} {env : List Sl} {P P' : Sl → Prop} {Pp : Post} {w w' w'' : Wd} {te ta tb ti : TE}
/-! ### what is read for good: parameters' trees -/
def EvS (K : PySem.W.Frag) (te : TE) (env : List Sl) (P : OT → Prop) : Prop := ∀ (en : En) (w : Wd) (σ : TSt), Rel K en w env σ → ∀ Q : VK, (∀ t v (w' : Wd), w.le w' → (∃ f, TR K w'.B en.w0.H t v f) → P t → Q v w'.H) → te σ w.H Q
theorem es_brt {i : Nat} {t : OT} {Po : OT → Prop} (e : env[i]? = some (.brt t)) (p : Po t) : EvS K (tVar i) env Po := fun en w σ R Q q => by
  obtain ⟨o, fp, h1, _, v, f', rfl, r⟩ := R.at e
  exact ⟨v, h1, q _ _ w w.rfl' ⟨f', r⟩ p⟩
theorem es_bor {i : Nat} {ds : List D} {Po : OT → Prop} (e : env[i]? = some (.bor ds)) (p : Po (oL ds)) : EvS K (tVar i) env Po := fun en w σ R Q q => by
  obtain ⟨o, fp, h1, _, pp, xs, rfl, h2, r⟩ := R.at e
  exact ⟨_, h1, q _ _ w w.rfl' ⟨[pp], TR.ofL h2 r⟩ p⟩
theorem es_ixT {Po : OT → Prop} (h : EvS K tb env fun t => ∃ xs, t = .tup xs ∧ EvE K ti env fun s2 => ∃ k c, s2 = .val (.int k) ∧ atI xs k = some c ∧ Po c) : EvS K (tOp (rIx K) tb ti) env Po := fun en w σ R Q q =>
  h en w σ R _ fun t v w1 e1 r1 p => by
    obtain ⟨xs, rfl, p⟩ := p
    exact p en w1 σ (R.grow e1) _ fun s2 y w2 e2 p2 r2 => by
      obtain ⟨k, c, rfl, hc, p⟩ := p2
      cases r2
      obtain ⟨f, r1⟩ := r1
      cases r1 with
      | @tup pp _ vs fp hp rs =>
        unfold atI at hc
        cases hk : ixN xs.length k with
        | none => rw [hk] at hc; cases hc
        | some j =>
          rw [hk] at hc
          obtain ⟨u, _, fs, hu, _, tr, _⟩ := rs.focus hc
          refine .inr (.inl ⟨pp, vs, k, u, rfl, rfl, .inl (.inl ((R.le.trans (e1.trans e2)).h _ _ hp)), ?_, q c u w2 (e1.trans e2) ⟨fs, tr.mono e2.b fun _ _ _ z => z⟩ p⟩)
          unfold atI; rw [← rs.len, hk]; exact hu
theorem ei_S {b : Bool} {Pd : List D → Prop} (h : EvS K te env fun t => ∃ ds, t = oL ds ∧ Pd ds) : EvI K b (iSeq K te) env Pd := fun en w σ R Q q =>
  .inl (h en w σ R _ fun t v w1 e1 r1 p => by
    obtain ⟨ds, rfl, p⟩ := p
    obtain ⟨f, r1⟩ := r1
    obtain ⟨pp, xs, rfl, _, h2, r⟩ := r1.oL_inv
    have R1 := R.grow e1
    exact ⟨pp, rfl, ⟨xs, .inl (.inl (R1.le.h _ _ h2))⟩, q _ ds w1 e1 p (itd_list (fun w' l => .inl (.inl ((l.le0 R1.le).h _ _ h2))) fun w' l => r.mono l.b)⟩)
/-! ### comprehensions over encoded lists -/
theorem ev_mapE {α : Type} {wi : TI} {g : TG} {vs : List Nat} {Q : Sl → Prop} (enc : α → D) (f : α → D) (xs : List α) (hy : xs.length ≤ 1000000) (h : EvI K true wi env fun ds => ds = xs.map enc)
    (hs : ∀ x, x ∈ xs → ∃ us, GD K g (enc x) us ∧ (∀ u ∈ us, u.1 ∈ vs) ∧ EvE K te (sets us (wipeS env vs)) fun s => Frz s (f x)) (p : Q (.own (oL (xs.map f)))) : EvE K (tLc wi g tYes te vs) env Q :=
  ev_lcI (fun i acc => acc = (xs.take i).map f) (xs.map enc) (by simpa using hy) h rfl (fun i d acc e ha => by
    rw [List.getElem?_map] at e
    cases hx : xs[i]? with
    | none => rw [hx] at e; cases e
    | some x =>
      rw [hx] at e; cases e
      obtain ⟨us, G, hu, he⟩ := hs x (List.mem_of_getElem? hx)
      refine ⟨us, G, hu, et_yes ⟨fun _ => he.imp fun s z => ⟨f x, z, ?_⟩, fun z => by cases z⟩⟩
      rw [ha, List.take_add_one, hx]; simp) fun acc ha => by rw [ha, List.length_map, List.take_length]; exact p
theorem ev_mapI {α : Type} {wi : TI} {g : TG} {vs : List Nat} {Q : Sl → Prop} (enc : α → D) (f : α → Int) (xs : List α) (hy : xs.length ≤ 1000000) (h : EvI K true wi env fun ds => ds = xs.map enc)
    (hs : ∀ x, x ∈ xs → ∃ us, GD K g (enc x) us ∧ (∀ u ∈ us, u.1 ∈ vs) ∧ EvE K te (sets us (wipeS env vs)) fun s => Frz s (.int (f x))) (p : Q (.own (oL ((xs.map f).map .int)))) : EvE K (tLc wi g tYes te vs) env Q :=
  ev_mapE enc (fun x => .int (f x)) xs hy h hs (by rw [List.map_map] at p; exact p)
theorem ev_filtE {α : Type} {wi : TI} {g : TG} {tt : TT} {vs : List Nat} {Q : Sl → Prop} (enc : α → D) (c : α → Bool) (f : α → D) (xs : List α) (hy : xs.length ≤ 1000000) (h : EvI K true wi env fun ds => ds = xs.map enc)
    (hs : ∀ x, x ∈ xs → ∃ us, GD K g (enc x) us ∧ (∀ u ∈ us, u.1 ∈ vs) ∧ EvT K tt (sets us (wipeS env vs)) (fun b => b = c x) ∧ (c x = true → EvE K te (sets us (wipeS env vs)) fun s => Frz s (f x))) (p : Q (.own (oL ((xs.filter c).map f)))) : EvE K (tLc wi g tt te vs) env Q :=
  ev_lcI (fun i acc => acc = ((xs.take i).filter c).map f) (xs.map enc) (by simpa using hy) h rfl (fun i d acc e ha => by
    rw [List.getElem?_map] at e
    cases hx : xs[i]? with
    | none => rw [hx] at e; cases e
    | some x =>
      rw [hx] at e; cases e
      obtain ⟨us, G, hu, ht, he⟩ := hs x (List.mem_of_getElem? hx)
      refine ⟨us, G, hu, ht.imp fun b hb => ⟨fun z => (he (by rw [← hb, z])).imp fun s z2 => ⟨f x, z2, ?_⟩, fun z => ?_⟩⟩
      · rw [ha, List.take_add_one, hx]; subst hb; simp [z]
      · rw [ha, List.take_add_one, hx]; subst hb; simp [z]) fun acc ha => by rw [ha, List.length_map, List.take_length]; exact p
/-- targets of tuples -/
theorem wp_asgG {g : TG} (h : EvE K te env fun s => ∃ d us, s = .val d ∧ GD K g d us ∧ Pp.nx (sets us env)) : Wp K (tAsg te g) env Pp := fun en w σ R D hn _ _ _ =>
  h en w σ R _ fun s v w1 e1 h1 r1 => by
    obtain ⟨d, us, rfl, G, p⟩ := h1
    exact G.run r1 fun vs gv => hn w1 _ _ e1.b ((R.grow e1).sets gv) p
/-! ### items of lists of ints -/
theorem d_ixI {s : Sl} {ns : List Int} {k : Int} (l : LsS s (ns.map D.int)) (h0 : 0 ≤ k) (h1 : k < ns.length) (p : P (.val (.int (ns.getD k.toNat 0)))) : RvP K (rIx K) s (.val (.int k)) P := sixL l (atI_ints h0 h1) p
theorem d_ixB {s : Sl} {ns : List Int} {k lo hi : Int} (l : LsS s (ns.map D.int)) (hb : ∀ n ∈ ns, lo ≤ n ∧ n < hi) (h0 : 0 ≤ k) (h1 : k < ns.length) (p : ∀ n : Int, lo ≤ n → n < hi → P (.val (.int n))) : RvP K (rIx K) s (.val (.int k)) P :=
  sixL l (atI_ints h0 h1) (p _ (getD_mem hb (by omega)).1 (getD_mem hb (by omega)).2)
theorem d_ixM {s : Sl} {ns : List Int} {x lo hi : Int} (l : LsS s (ns.map D.int)) (hb : ∀ n ∈ ns, lo ≤ n ∧ n < hi) (h0 : 0 < ns.length) (p : ∀ n : Int, lo ≤ n → n < hi → P (.val (.int n))) : RvP K (rIx K) s (.val (.int (x % (ns.length : Int)))) P :=
  d_ixB l hb (Int.emod_nonneg x (by omega)) (Int.emod_lt_of_pos x (by omega)) p
theorem d_ixE {α : Type} {s : Sl} {enc : α → D} {xs : List α} {k : Int} {x : α} (l : LsS s (xs.map enc)) (h0 : 0 ≤ k) (e : xs[k.toNat]? = some x) (p : P (.val (enc x))) : RvP K (rIx K) s (.val (.int k)) P := sixL l (atI_of h0 (by rw [List.getElem?_map, e]; rfl)) p
theorem emod_rng {x lo hi : Int} (h : lo ≤ hi) : lo ≤ lo + x % (hi - lo + 1) ∧ lo + x % (hi - lo + 1) ≤ hi := by
  have h1 := Int.emod_nonneg x (b := hi - lo + 1) (by omega)
  have h2 := Int.emod_lt_of_pos x (b := hi - lo + 1) (by omega)
  omega
theorem cdivw_of {i j : Int} (h : 0 < j) (h2 : j < 18446744073709551616) : CDivW i j := wide_div (b := 64) h (by omega) (by decide) (by decide)
theorem d_divW' {i j : Int} (h : 0 < j) (h2 : j < 18446744073709551616) (p : P (.val (.int (i / j)))) : RvP K rDivG (.val (.int i)) (.val (.int j)) P := d_divW (cdivw_of h h2) p
theorem x_sum {s : Sl} (h : ∃ ns : List Int, LsS s (ns.map D.int) ∧ P (.val (.int ns.sum))) : RaP K (rSum K) [s] P := let ⟨_, a, b⟩ := h; ra_sum a b
/-! ### kinds of built-ins -/
theorem k_ii : (kitB "int" "int").getD false = true := by decide +kernel
theorem k_ib : (kitB "int" "bool").getD false = false := by decide +kernel
theorem k_bi : (kitB "bool" "int").getD false = true := by decide +kernel
theorem k_bb : (kitB "bool" "bool").getD false = true := by decide +kernel
theorem k_tt : (kitB "tuple" "tuple").getD false = true := by decide +kernel
theorem k_tl : (kitB "tuple" "list").getD false = false := by decide +kernel
theorem k_ll : (kitB "list" "list").getD false = true := by decide +kernel
theorem k_lt : (kitB "list" "tuple").getD false = false := by decide +kernel
theorem k_ss : (kitB "str" "str").getD false = true := by decide +kernel
theorem k_ns : (kitB "NoneType" "str").getD false = false := by decide +kernel
theorem chS_oL (ds : List D) : chS (oL ds) = .brt (oL ds) := rfl
theorem chS_imm (d : D) : chS (.imm d) = .val d := rfl
theorem x_ixTt {s : Sl} {i : Int} (h : ∃ xs c, TtS s xs ∧ atI xs i = some c ∧ P (chS c)) : RvP K (rIx K) s (.val (.int i)) P := let ⟨_, _, a, b, c⟩ := h; sixTt a b c
theorem x_ixT {ds : List D} {i : Int} (h : ∃ d, atI ds i = some d ∧ P (.val d)) : RvP K (rIx K) (.val (.tup ds)) (.val (.int i)) P := let ⟨_, a, b⟩ := h; sixT a b
/-! ### slices -/
theorem cutD_from {ds : List D} {k : Int} (h : 0 ≤ k) : cutD ds (some k) none = ds.drop k.toNat := by
  unfold cutD
  have e : HT.sIx ds.length 0 (some k) = min k.toNat ds.length := by
    have := HT.sIx_nat ds.length 0 k.toNat
    rwa [Int.toNat_of_nonneg h] at this
  rw [e, HT.sIx_none]
  by_cases hk : k.toNat ≤ ds.length
  · rw [Nat.min_eq_left hk, List.take_of_length_le (by simp)]
  · rw [Nat.min_eq_right (by omega), List.drop_of_length_le (by omega), List.drop_of_length_le (by omega)]; simp
theorem cutD_to {ds : List D} {k : Int} (h : 0 ≤ k) : cutD ds none (some k) = ds.take k.toNat := by
  unfold cutD
  have e : HT.sIx ds.length ds.length (some k) = min k.toNat ds.length := by
    have := HT.sIx_nat ds.length ds.length k.toNat
    rwa [Int.toNat_of_nonneg h] at this
  rw [e, HT.sIx_none, List.drop_zero, Nat.sub_zero]
  by_cases hk : k.toNat ≤ ds.length
  · rw [Nat.min_eq_left hk]
  · rw [Nat.min_eq_right (by omega), List.take_of_length_le (by omega), List.take_of_length_le (by omega)]
/-! ### tests whose answer is known -/
theorem b_ff {A B : Prop} (h : B) : (false = true → A) ∧ (false = false → B) := ⟨fun z => (nomatch z), fun _ => h⟩
theorem b_tt {A B : Prop} (h : A) : (true = true → A) ∧ (true = false → B) := ⟨fun _ => h, fun z => (nomatch z)⟩
theorem b_ff' {A B : Prop} (h : B) : (false = false → B) ∧ (false = true → A) := ⟨fun _ => h, fun z => (nomatch z)⟩
theorem b_tt' {A B : Prop} (h : A) : (true = false → B) ∧ (true = true → A) := ⟨fun z => (nomatch z), fun _ => h⟩
theorem x_powE {i j : Int} (c : 0 ≤ j) (c1 : j ≤ 1000000) (c2 : i.natAbs < 18446744073709551616) (h : ∃ v, i ^ j.toNat = v ∧ P (.val (.int v))) : RvP K rPowI (.val (.int i)) (.val (.int j)) P := let ⟨_, e, p⟩ := h; d_pow' c c1 c2 (by rw [e]; exact p)
theorem x_lenM {α : Type} {xs : List α} {f : α → D} {s : Sl} (l : LsS s (xs.map f)) (p : P (.val (.int xs.length))) : RaP K (rLenG K) [s] P := ra_lenL l (by rw [List.length_map]; exact p)
theorem kk_ii : kitB "int" "int" = some true := by decide +kernel
theorem kk_ib : kitB "int" "bool" = some false := by decide +kernel
theorem kk_it : kitB "int" "tuple" = some false := by decide +kernel
theorem kk_il : kitB "int" "list" = some false := by decide +kernel
theorem kk_is : kitB "int" "str" = some false := by decide +kernel
theorem kk_bi : kitB "bool" "int" = some true := by decide +kernel
theorem kk_bb : kitB "bool" "bool" = some true := by decide +kernel
theorem kk_bt : kitB "bool" "tuple" = some false := by decide +kernel
theorem kk_bs : kitB "bool" "str" = some false := by decide +kernel
theorem kk_tt : kitB "tuple" "tuple" = some true := by decide +kernel
theorem kk_tl : kitB "tuple" "list" = some false := by decide +kernel
theorem kk_ti : kitB "tuple" "int" = some false := by decide +kernel
theorem kk_tb : kitB "tuple" "bool" = some false := by decide +kernel
theorem kk_ts : kitB "tuple" "str" = some false := by decide +kernel
theorem kk_ll : kitB "list" "list" = some true := by decide +kernel
theorem kk_lt : kitB "list" "tuple" = some false := by decide +kernel
theorem kk_ss : kitB "str" "str" = some true := by decide +kernel
theorem kk_si : kitB "str" "int" = some false := by decide +kernel
theorem kk_sb : kitB "str" "bool" = some false := by decide +kernel
theorem kk_st : kitB "str" "tuple" = some false := by decide +kernel
theorem kk_ns : kitB "NoneType" "str" = some false := by decide +kernel
theorem x_isiE {s : Sl} {m : String} (h : ∃ n b, tyS s = some n ∧ kitB n m = some b ∧ P (.val (.bl b))) : RaP K (rIsiG K) [s, .val (.ty m)] P := let ⟨_, _, a, b, c⟩ := h; ra_isi a b c
theorem x_ixTtL {s : Sl} {i : Int} (h : ∃ xs ds, TtS s xs ∧ atI xs i = some (oL ds) ∧ P (.brt (oL ds))) : RvP K (rIx K) s (.val (.int i)) P := let ⟨_, _, a, b, c⟩ := h; sixTt a b c
theorem x_ixTtI {s : Sl} {i : Int} (h : ∃ xs d, TtS s xs ∧ atI xs i = some (.imm d) ∧ P (.val d)) : RvP K (rIx K) s (.val (.int i)) P := let ⟨_, _, a, b, c⟩ := h; sixTt a b c
theorem b_fT {A B : Prop} (h : B) : (false = true → A) ∧ (True → B) := ⟨fun z => (nomatch z), fun _ => h⟩
theorem b_tF {A B : Prop} (h : A) : (True → A) ∧ (true = false → B) := ⟨fun _ => h, fun z => (nomatch z)⟩
theorem d_ixB3 {s : Sl} {ns : List Int} {k : Int} (l : LsS s (ns.map D.int)) (hb : ∀ n ∈ ns, 0 ≤ n ∧ n < 1000) (h0 : 0 ≤ k) (h1 : k < ns.length) (p : ∀ n : Int, 0 ≤ n → n < 1000 → P (.val (.int n))) : RvP K (rIx K) s (.val (.int k)) P := d_ixB l hb h0 h1 p
theorem d_ixM3 {s : Sl} {ns : List Int} {x : Int} (l : LsS s (ns.map D.int)) (hb : ∀ n ∈ ns, 0 ≤ n ∧ n < 1000) (h0 : 0 < ns.length) (p : ∀ n : Int, 0 ≤ n → n < 1000 → P (.val (.int n))) : RvP K (rIx K) s (.val (.int (x % (ns.length : Int)))) P := d_ixM l hb h0 p
theorem b_nt {A B : Prop} (h : B) : ((!true) = true → A) ∧ ((!true) = false → B) := ⟨fun z => (nomatch z), fun _ => h⟩
theorem b_nf {A B : Prop} (h : A) : ((!false) = true → A) ∧ ((!false) = false → B) := ⟨fun _ => h, fun z => (nomatch z)⟩
theorem b_nt' {A B : Prop} (h : A) : ((!true) = false → A) ∧ ((!true) = true → B) := ⟨fun _ => h, fun z => (nomatch z)⟩
theorem b_nf' {A B : Prop} (h : B) : ((!false) = false → A) ∧ ((!false) = true → B) := ⟨fun z => (nomatch z), fun _ => h⟩
theorem x_ixE {α : Type} {s : Sl} {enc : α → D} {xs : List α} {k : Int} (l : LsS s (xs.map enc)) (h0 : 0 ≤ k) (h : ∃ x, xs[k.toNat]? = some x ∧ P (.val (enc x))) : RvP K (rIx K) s (.val (.int k)) P := let ⟨_, e, p⟩ := h; d_ixE l h0 e p
theorem d_slF3 {s : Sl} {ns : List Int} {k : Int} (l : LsS s (ns.map D.int)) (hb : ∀ n ∈ ns, 0 ≤ n ∧ n < 1000) (h0 : 0 ≤ k) (p : ∀ ms : List Int, ms.length = ns.length - k.toNat → (∀ n ∈ ms, 0 ≤ n ∧ n < 1000) → P (.own (oL (ms.map .int)))) : RsP K (rSlG K) s (some k) none P :=
  d_slL l (by rw [cutD_from h0, ← List.map_drop]; exact p _ (by simp) fun n hn => hb n (List.mem_of_mem_drop hn))
theorem x_slFE {α : Type} {enc : α → D} {s : Sl} {xs : List α} {k : Int} (l : LsS s (xs.map enc)) (h0 : 0 ≤ k) (p : P (.own (oL ((xs.drop k.toNat).map enc)))) : RsP K (rSlG K) s (some k) none P :=
  d_slL l (by rw [cutD_from h0, ← List.map_drop]; exact p)
theorem x_slTE {α : Type} {enc : α → D} {s : Sl} {xs : List α} {k : Int} (l : LsS s (xs.map enc)) (h0 : 0 ≤ k) (p : P (.own (oL ((xs.take k.toNat).map enc)))) : RsP K (rSlG K) s none (some k) P :=
  d_slL l (by rw [cutD_to h0, ← List.map_take]; exact p)
inductive IL : List D → List Int → Prop
  | nil : IL [] []
  | cons {n : Int} {ds : List D} {ns : List Int} : IL ds ns → IL (.int n :: ds) (n :: ns)
theorem IL.eq {ds : List D} {ns : List Int} (h : IL ds ns) : ds = ns.map .int := by
  induction h with
  | nil => rfl
  | cons _ ih => rw [ih]; rfl
theorem x_ixDi {s : Sl} {ds : List D} {ns : List Int} {k : Int} (l : LsS s ds) (e : IL ds ns) (h0 : 0 ≤ k) (h1 : k < ns.length) (p : ∀ v : Int, v ∈ ns → P (.val (.int v))) : RvP K (rIx K) s (.val (.int k)) P := by
  rw [e.eq] at l
  refine d_ixI l h0 h1 (p _ ?_)
  rw [List.getD_eq_getElem?_getD, List.getElem?_eq_getElem (by omega)]
  exact List.getElem_mem _
end
end DL
namespace DL
theorem ex_lsO {ds : List D} {Q : List D → Prop} (h : Q ds) : ∃ x, LsS (.own (oL ds)) x ∧ Q x := ⟨ds, .own, h⟩
theorem ex_lsB {ds : List D} {Q : List D → Prop} (h : Q ds) : ∃ x, LsS (.bor ds) x ∧ Q x := ⟨ds, .bor, h⟩
theorem ex_lsS {ds : List D} {Q : List D → Prop} (h : Q ds) : ∃ x, LsS (.scr ds) x ∧ Q x := ⟨ds, .scr, h⟩
end DL

set_option Elab.async false
set_option linter.all false
set_option maxRecDepth 100000
set_option autoImplicit false
namespace DL
open PySem L2
/-! ### dicts of one's own -/
section
variable {α κ : Type} [DecidableEq κ]
def getO (kvs : List (κ × α)) (k : κ) : Option α := (kvs.find? fun kv => decide (kv.1 = k)).map (·.2)
def putO (kvs : List (κ × α)) (k : κ) (v : α) : List (κ × α) :=
  if (getO kvs k).isSome = true then kvs.map (fun kv => if kv.1 = k then (kv.1, v) else kv) else kvs ++ [(k, v)]
theorem getO_nil {k : κ} : getO ([] : List (κ × α)) k = none := rfl
theorem getO_pos {p : κ × α} {r : List (κ × α)} {k : κ} (e : p.1 = k) : getO (p :: r) k = some p.2 := by simp [getO, List.find?_cons, e]
theorem getO_neg {p : κ × α} {r : List (κ × α)} {k : κ} (e : ¬ p.1 = k) : getO (p :: r) k = getO r k := by simp [getO, List.find?_cons, e]
theorem getO_snoc {kvs : List (κ × α)} {k j : κ} {v : α} (h : getO kvs k = none) : getO (kvs ++ [(k, v)]) j = if j = k then some v else getO kvs j := by
  induction kvs with
  | nil =>
    by_cases e : j = k
    · subst e; simp [getO]
    · have e' : ¬ k = j := fun z => e z.symm
      simp [getO, e, e']
  | cons p r ih =>
    by_cases e : p.1 = j
    · rw [List.cons_append, getO_pos e, getO_pos e]
      split
      · rename_i e2; subst e2; rw [getO_pos e] at h; cases h
      · rfl
    · rw [List.cons_append, getO_neg e, getO_neg e]
      by_cases e2 : p.1 = k
      · rw [getO_pos e2] at h; cases h
      · rw [getO_neg e2] at h; exact ih h
theorem getO_map (k j : κ) (y : α) : ∀ kvs : List (κ × α), getO (kvs.map fun kv => if kv.1 = k then (kv.1, y) else kv) j = (getO kvs j).map fun x => if j = k then y else x
  | [] => rfl
  | p :: r => by
    have ih := getO_map k j y r
    by_cases e : p.1 = j
    · rw [getO_pos e, List.map_cons, getO_pos (by split <;> exact e)]
      by_cases e2 : p.1 = k
      · simp [e2, show j = k from e ▸ e2]
      · simp [e2, show ¬ j = k from fun z => e2 (e.trans z)]
    · rw [getO_neg e, List.map_cons, getO_neg (by split <;> exact e)]; exact ih
theorem getO_put {kvs : List (κ × α)} {k j : κ} {v : α} : getO (putO kvs k v) j = if j = k then some v else getO kvs j := by
  unfold putO
  split
  · rename_i h
    rw [getO_map]
    by_cases e : j = k
    · subst e
      obtain ⟨x, hx⟩ := Option.isSome_iff_exists.mp h
      simp [hx]
    · simp [e]
  · rename_i h
    exact getO_snoc (by simpa using h)
theorem keys_put {kvs : List (κ × α)} {k : κ} {v : α} : (putO kvs k v).map (·.1) = if (getO kvs k).isSome = true then kvs.map (·.1) else kvs.map (·.1) ++ [k] := by
  unfold putO
  split
  · rw [List.map_map]
    refine List.map_congr_left fun x _ => ?_
    simp only [Function.comp]; split <;> rfl
  · simp
end
section
variable {K : PySem.W.Frag} {B B' H H' : Hp} {κ : Type} [DecidableEq κ]
theorem dget_ok {xs : List (κ × OT)} : ∀ {vs : List (κ × V)} {fp : List Addr} {k : κ} {c : OT}, vs.map (·.1) = xs.map (·.1) → TRs K B H (xs.map (·.2)) (vs.map (·.2)) fp → getO xs k = some c →
    ∃ (u : V) (fs : List Addr) (j : Nat), valV vs k = some u ∧ TR K B H c u fs ∧ xs[j]? = some (k, c) ∧ vs[j]? = some (k, u) := by
  induction xs with
  | nil => intro vs fp k c e r h; cases h
  | cons p r ih =>
    intro vs fp k c e t h
    cases vs with
    | nil => cases e
    | cons q s =>
      simp only [List.map_cons, List.cons.injEq] at e t
      cases t with
      | cons t1 t2 =>
        by_cases hk : p.1 = k
        · rw [getO_pos hk] at h; cases h
          refine ⟨q.2, _, 0, valV_pos (e.1.trans hk), t1, ?_, ?_⟩
          · subst hk; rfl
          · have := e.1.trans hk; subst this; rfl
        · rw [getO_neg hk] at h
          obtain ⟨u, fs, j, a, b, c1, c2⟩ := ih e.2 t2 h
          exact ⟨u, fs, j + 1, by rw [valV_neg (fun z => hk (e.1.symm.trans z))]; exact a, b, c1, c2⟩
theorem dget_some {xs : List (κ × OT)} : ∀ {vs : List (κ × V)} {k : κ}, vs.map (·.1) = xs.map (·.1) → (valV vs k).isSome = (getO xs k).isSome := by
  induction xs with
  | nil => intro vs k e; cases vs with | nil => rfl | cons _ _ => cases e
  | cons p r ih =>
    intro vs k e
    cases vs with
    | nil => cases e
    | cons q s =>
      simp only [List.map_cons, List.cons.injEq] at e
      by_cases hk : p.1 = k
      · rw [getO_pos hk, valV_pos (e.1.trans hk)]; rfl
      · rw [getO_neg hk, valV_neg (fun z => hk (e.1.symm.trans z))]; exact ih e.2
theorem AtV.back {w w2 : Wd} (hh : w.le w2) {t s : OT} {v u : V} {f : OT → OT} (a : AtV w2.H t v s u f) : ∀ {fp : List Addr}, TR K w.B w.H t v fp → AtV w.H t v s u f := by
  have kid : ∀ {xs : List OT} {vs : List V} {fp : List Addr} {j : Nat} {c : OT} {cv : V}, TRs K w.B w.H xs vs fp → xs[j]? = some c → vs[j]? = some cv → ∃ fs, TR K w.B w.H c cv fs := by
    intro xs vs fp j c cv r e1 e2
    obtain ⟨u, _, fs, e3, _, t, _⟩ := r.focus e1
    rw [e2] at e3; cases e3
    exact ⟨fs, t⟩
  induction a with
  | here => intro fp _; exact .here
  | lst h e1 e2 _ ih =>
    intro fp r
    cases r with
    | lst h' r =>
      have := hh.h _ _ h'
      rw [h] at this; cases this
      obtain ⟨fs, r'⟩ := kid r e1 e2
      exact .lst h' e1 e2 (ih r')
  | tup h e1 e2 _ ih =>
    intro fp r
    cases r with
    | tup h' r =>
      have := hh.h _ _ h'
      rw [h] at this; cases this
      obtain ⟨fs, r'⟩ := kid r e1 e2
      exact .tup h' e1 e2 (ih r')
  | dK h e1 e2 _ ih =>
    intro fp r
    cases r with
    | dK h' ek r =>
      have := hh.h _ _ h'
      rw [h] at this; cases this
      obtain ⟨fs, r'⟩ := kid r (by rw [List.getElem?_map, e1]; rfl) (by rw [List.getElem?_map, e2]; rfl)
      exact .dK h' e1 e2 (ih r')
  | dT h e1 e2 _ ih =>
    intro fp r
    cases r with
    | dT h' ek r =>
      have := hh.h _ _ h'
      rw [h] at this; cases this
      obtain ⟨fs, r'⟩ := kid r (by rw [List.getElem?_map, e1]; rfl) (by rw [List.getElem?_map, e2]; rfl)
      exact .dT h' e1 e2 (ih r')
  | ins h e1 e2 _ ih =>
    intro fp r
    cases r with
    | ins h' ek r =>
      have := hh.h _ _ h'
      rw [h] at this; cases this
      obtain ⟨fs, r'⟩ := kid r (by rw [List.getElem?_map, e1]; rfl) (by rw [List.getElem?_map, e2]; rfl)
      exact .ins h' e1 e2 (ih r')
end
section
variable {K : PySem.W.Frag} {env : List Sl} {P P' : Sl → Prop} {Pp : Post} {w w' w'' : Wd} {te ta tb td ti : TE} {en : En}
/-- a node is written with what was made since w -/
theorem Rel.write2 {i : Nat} {t s s' : OT} {vr : V} {p : Addr} {o' : HO} {f : OT → OT} {σ : TSt} {w3 : Wd} (R : Rel K en w env σ) (ew : w.le w3) (e : env[i]? = some (.own t) ∨ env[i]? = some (.io t)) (hv : σ[i]? = some (some vr)) (a : AtV w3.H t vr s (.ref p) f)
    (new : ∀ fs, TR K w.B w.H s (.ref p) fs → fs.Nodup → (∀ q ∈ fs, en.w0.H q = none ∧ w3.B q = none) → p ∈ fs ∧ ∀ H', H' p = some o' → (∀ q o, q ≠ p → w3.H q = some o → H' q = some o) → ∃ fs', TR K w3.B H' s' (.ref p) fs' ∧ fs'.Nodup ∧ ∀ q ∈ fs', en.w0.H q = none ∧ w3.B q = none ∧ (q ∈ fs ∨ w.H q = none)) (nk : NoKt o' := by intro _ z; cases z) :
    ∃ w4 : Wd, w4.H = upd w3.H p o' ∧ Same w3.B w4.B ∧ Rel K en w4 (putS env i (f s')) σ := by
  obtain ⟨F, R0⟩ := id R
  have own : Own K en.w0.H w t vr (F i) := by
    rcases e with e | e
    · obtain ⟨v', z, r⟩ := R0.sl i _ _ e hv; cases z; exact r
    · obtain ⟨⟨v', z, r⟩, _⟩ := R0.sl i _ _ e hv; cases z; exact r
  have a0 : AtV w.H t vr s (.ref p) f := a.back ew own.1
  obtain ⟨f1, fs, pm, ts, rb⟩ := a0.focus own.1
  have inF : ∀ q, q ∈ fs → q ∈ F i := fun q z => pm.mem_iff.mpr (List.mem_append.mpr (.inr z))
  have nd : fs.Nodup := (List.nodup_append.mp (pm.nodup_iff.mp own.2.1)).2.1
  have noB : ∀ q, q ∈ F i → w3.B q = none := fun q z => by
    obtain ⟨o, ho⟩ := own.1.there q z
    exact (ew.f q o ho).trans (own.2.2 q z).2
  obtain ⟨hp, _⟩ := new fs ts nd fun q z => ⟨(own.2.2 q (inF q z)).1, noB q (inF q z)⟩
  have hB : w3.B p = none := noB p (inF p hp)
  refine ⟨w3.put p o' hB nk, rfl, Same.refl _, ?_⟩
  refine R.node (w1 := w3.put p o' hB nk) (s' := s') e hv a0 ew.b (fun fs ts nd no => ?_) (fun q o z => ?_)
  · have no' : ∀ q ∈ fs, en.w0.H q = none ∧ w3.B q = none := fun q z => ⟨(no q z).1, by
      obtain ⟨o, ho⟩ := ts.there q z
      exact (ew.f q o ho).trans (no q z).2⟩
    obtain ⟨hp, k⟩ := new fs ts nd no'
    refine ⟨fun q o z1 z2 => ⟨?_, fun n => (ew.f q o z2).trans n⟩, ?_⟩
    · show upd w3.H p o' q = some o
      rw [upd_ne (fun z => by subst z; exact z1 hp)]; exact ew.h _ _ z2
    · exact k (upd w3.H p o') upd_same fun q o z1 z2 => by rw [upd_ne z1]; exact z2
  · exact (ew.f q o (R0.le.h _ _ z)).trans (R0.le.f q o z)
/-! ### reading -/
def rDG : R2 := fun x y H Q => ∃ a v, x = .ref a ∧ DGet H a y (some v) ∧ Q v H
def rDIn : R2 := fun y x H Q => ∃ a o, x = .ref a ∧ DGet H a y o ∧ Q (.bl o.isSome) H
def rDNotIn : R2 := fun y x H Q => ∃ a o, x = .ref a ∧ DGet H a y o ∧ Q (.bl (!o.isSome)) H
theorem pe_dgetO {X : Cx} {o i : Expr} {pos : Pos} (hu : X.A.units + 64 < cLine) (ho : PE X o td) (hi : PE X i ti) (hs : NoSl i) : PE X (.Subscript o i pos) (tOp rDG td ti) := pe_dget (by omega) ho hi hs
theorem g_dIn {X : Cx} (hu : X.A.units + 64 < cLine) : OpR X (compareOp .In) rDIn := by
  intro pins s σ H x y v u Q I rx ry h
  obtain ⟨a, o, rfl, g, q⟩ := h
  cases (show u = Value.ref a from ry)
  exact L2.d_in (by omega) I g rx fun s' I' => ⟨.bl _, H, I', rfl, q⟩
theorem g_dNotIn {X : Cx} (hu : X.A.units + 64 < cLine) : OpR X (compareOp .NotIn) rDNotIn := by
  intro pins s σ H x y v u Q I rx ry h
  obtain ⟨a, o, rfl, g, q⟩ := h
  cases (show u = Value.ref a from ry)
  exact L2.d_notIn (by omega) I g rx fun s' I' => ⟨.bl _, H, I', rfl, q⟩
inductive TdS : Sl → List (Key × OT) → Prop
  | brt {xs : List (Key × OT)} : TdS (.brt (.dK xs)) xs
  | own {xs : List (Key × OT)} : TdS (.own (.dK xs)) xs
  | val {xs : List (Key × D)} : TdS (.val (.dK xs)) (xs.map fun p => (p.1, .imm p.2))
/-- not locked -/
inductive TdN : Sl → List (Key × OT) → Prop
  | brt {xs : List (Key × OT)} : TdN (.brt (.dK xs)) xs
  | own {xs : List (Key × OT)} : TdN (.own (.dK xs)) xs
theorem TdN.tr {s : Sl} {xs : List (Key × OT)} {x : V} (l : TdN s xs) (r : SlN K w w' s x) : ∃ a vs fp, x = .ref a ∧ w'.H a = some (.dK vs) ∧ vs.map (·.1) = xs.map (·.1) ∧ TRs K w'.B w'.H (xs.map (·.2)) (vs.map (·.2)) fp := by
  have : ∃ f', TR K w'.B w'.H (.dK xs) x f' := by
    cases l with
    | brt => exact r
    | own => obtain ⟨f, r, _⟩ := r; exact ⟨f, r⟩
  obtain ⟨f', r2⟩ := this
  cases r2 with
  | dK h e r3 => exact ⟨_, _, _, rfl, h, e, r3⟩
theorem TdS.tr {s : Sl} {xs : List (Key × OT)} {x : V} (l : TdS s xs) (r : SlN K w w' s x) : ∃ a vs fp, x = .ref a ∧ Rd w'.H a (.dK vs) ∧ vs.map (·.1) = xs.map (·.1) ∧ TRs K w'.B w'.H (xs.map (·.2)) (vs.map (·.2)) fp := by
  cases l with
  | brt => obtain ⟨a, vs, fp, h1, h2, h3⟩ := TdN.tr .brt r; exact ⟨a, vs, fp, h1, .inl h2, h3⟩
  | own => obtain ⟨a, vs, fp, h1, h2, h3⟩ := TdN.tr .own r; exact ⟨a, vs, fp, h1, .inl h2, h3⟩
  | @val xs =>
    cases r with
    | dK h e r3 =>
      refine ⟨_, _, [], rfl, .inr ⟨_, w'.sub _ _ h⟩, by rw [e, List.map_map]; rfl, ?_⟩
      have := TRs.imms (H := w'.H) r3
      rw [List.map_map] at this ⊢
      exact this
theorem x_dget {s : Sl} {k : Key} {sk : Sl} (ek : sk = .val (keyD k)) (h : ∃ xs c, TdS s xs ∧ getO xs k = some c ∧ P (chS c)) : RvP K rDG s sk P := fun w wx x y _ r1 r2 Q q => by
  subst ek
  obtain ⟨xs, c, l, e, p⟩ := h
  have := keyD_v r2
  subst this
  obtain ⟨a, vs, fp, rfl, h1, h2, h3⟩ := l.tr r1
  obtain ⟨u, fs, j, e1, t, _, _⟩ := dget_ok h2 h3 e
  refine ⟨a, u, rfl, .inl ⟨vs, k, h1, rfl, e1.symm⟩, q _ _ wx wx.rfl' p (chS_ok t)⟩
theorem x_din {s : Sl} {k : Key} {sk : Sl} (ek : sk = .val (keyD k)) (h : ∃ xs, TdS s xs ∧ P (.val (.bl (getO xs k).isSome))) : RvP K rDIn sk s P := fun w wx x y _ r1 r2 Q q => by
  subst ek
  obtain ⟨xs, l, p⟩ := h
  have := keyD_v r1
  subst this
  obtain ⟨a, vs, fp, rfl, h1, h2, h3⟩ := l.tr r2
  exact ⟨a, valV vs k, rfl, .inl ⟨vs, k, h1, rfl, rfl⟩, q (.val (.bl _)) _ wx wx.rfl' p (by rw [← dget_some h2]; exact .bl _)⟩
theorem x_dnotin {s : Sl} {k : Key} {sk : Sl} (ek : sk = .val (keyD k)) (h : ∃ xs, TdS s xs ∧ P (.val (.bl (!(getO xs k).isSome)))) : RvP K rDNotIn sk s P := fun w wx x y _ r1 r2 Q q => by
  subst ek
  obtain ⟨xs, l, p⟩ := h
  have := keyD_v r1
  subst this
  obtain ⟨a, vs, fp, rfl, h1, h2, h3⟩ := l.tr r2
  exact ⟨a, valV vs k, rfl, .inl ⟨vs, k, h1, rfl, rfl⟩, q (.val (.bl _)) _ wx wx.rfl' p (by rw [← dget_some h2]; exact .bl _)⟩
/-- list(d) -/
def rListDK : List V → Hp → VK → Prop := fun xs H Q => ∃ (a : Addr) (kvs : List (Key × V)), xs = [.ref a] ∧ Rd H a (.dK kvs) ∧ ∀ p, H p = none → Q (.ref p) (upd H p (.lst (kvs.map fun kv => kV kv.1)))
theorem b_listDK {X : Cx} (hc : X.calm = true) : CallR X (.type "list") rListDK := call_listD hc
theorem x_listDK {s : Sl} (h : ∃ xs, TdS s xs ∧ P (.own (oL ((xs.map (·.1)).map keyD)))) : RaP K rListDK [s] P := fun w wx vs e r Q q => by
  obtain ⟨xs, l, p⟩ := h
  cases r with
  | cons r t =>
    cases t
    obtain ⟨a, vs, fp, rfl, h1, h2, h3⟩ := l.tr r
    refine ⟨a, vs, rfl, h1, fun l hl => q _ _ (wx.lay l _ hl) (Wd.le_lay hl) p ?_⟩
    have : (vs.map fun kv => kV kv.1) = ((xs.map (·.1)).map kV) := by rw [← h2, List.map_map]; rfl
    rw [this]
    exact own_new e hl (dra_keys _)
/-! ### a node in a dict -/
theorem en_dK {Pn : Nat → OT → (OT → OT) → Prop} (h : EvN K tb env fun i s f => ∃ xs, s = .dK xs ∧ EvE K ti env fun s2 => ∃ k, s2 = .val (keyD k) ∧ ∃ c, getO xs k = some c ∧ (∀ j : Nat, xs[j]? = some (k, c) → Pn i c (fun x => f (.dK (xs.set j (k, x)))))) : EvN K (tOp rDG tb ti) env Pn := fun en w σ R Q q =>
  h en w σ R _ fun i t s f vr u w1 e1 et hv a p => by
    obtain ⟨xs, rfl, p⟩ := p
    exact p en w1 σ (R.grow e1) _ fun s2 y w2 e2 p2 r2 => by
      obtain ⟨k, rfl, c, hc, p⟩ := p2
      have := keyD_v r2
      subst this
      have a2 := a.mono e2.h
      obtain ⟨fs, tr⟩ := (R.grow (e1.trans e2)).nodeTR et hv a2
      cases tr with
      | @dK pp _ vs fp hp ek rs =>
        obtain ⟨cv, fs, j, hcv, _, j1, j2⟩ := dget_ok ek rs hc
        exact ⟨pp, cv, rfl, .inl ⟨vs, k, .inl hp, rfl, hcv.symm⟩, q i t c _ vr cv w2 (e1.trans e2) et hv (a2.trans (.dK hp j1 j2 .here)) (p j j1)⟩
/-- {} -/
theorem x_newK {te' : TE} (e : te' = tDNewK) (p : P (.own (.dK []))) : EvE K te' env P := by
  subst e
  exact fun en w σ R Q q l hl => q _ _ (w.lay l _ hl) (Wd.le_lay hl) p ⟨[l], .dK upd_same rfl .nil, by simp, fun z hz => by
    have e1 : z = l := by simpa using hz
    subst e1
    exact ⟨hl, (show w.B z = none from Wd.freeB hl)⟩⟩
/-- d[k] = a list of one's own, a new key -/
theorem wp_dputO (h : EvE K te env fun s => ∃ t, s = .own t ∧ EvN K td env fun i s f => ∃ xs, s = .dK xs ∧ EvE K ti env fun s2 => ∃ k, s2 = .val (keyD k) ∧ getO xs k = none ∧ xs.length < 1000000 ∧ Pp.nx (putS env i (f (.dK (xs ++ [(k, t)]))))) :
    Wp K (tAsg te (gSub td ti rSetD)) env Pp := fun en w σ R D hn _ _ _ =>
  h en w σ R _ fun s v w1 e1 p1 r1 => by
    obtain ⟨tn, rfl, p⟩ := p1
    exact p en w1 σ (R.grow e1) _ fun i t s f vr u w2 e2 et hv a p => by
      obtain ⟨xs, rfl, p⟩ := p
      exact p en w2 σ (R.grow (e1.trans e2)) _ fun s3 y w3 e3 p3 r3 => by
        obtain ⟨k, rfl, hk, hl, p⟩ := p3
        have := keyD_v r3
        subst this
        have a3 := a.mono e3.h
        have ew := (e1.trans e2).trans e3
        obtain ⟨fs, ts⟩ := (R.grow ew).nodeTR et hv a3
        obtain ⟨fn, on⟩ := r1
        have on := on.grow (e2.trans e3)
        cases ts with
        | @dK pp _ vs fp hp ek rs =>
          have hn0 : valV vs k = none := by
            have := dget_some (k := k) ek
            rw [hk] at this
            simpa using this
          have hlv : vs.length = xs.length := by simpa using congrArg List.length ek
          refine ⟨pp, _, rfl, .inl ⟨vs, k, hp, rfl, Nat.lt_of_lt_of_le (by rw [hlv]; exact hl) (by decide), rfl⟩, ?_⟩
          obtain ⟨w4, h4, b4, R4⟩ := R.write2 (s' := .dK (xs ++ [(k, tn)])) (o' := .dK (putK vs k v)) ew et hv a3 (fun fs ts nd no => by
            cases ts with
            | @dK _ _ vs' fp' hp' ek' rs' =>
              have hp'' := ew.h _ _ hp'
              rw [hp] at hp''; cases hp''
              have npp : pp ∉ fn := fun z => by rw [(on.2.2 pp z).1] at hp'; cases hp'
              refine ⟨by simp, fun H' q1 q2 => ⟨pp :: (fp' ++ (fn ++ [])), .dK q1 ?_ ?_, ?_, fun q z => ?_⟩⟩
              · rw [putK_new v hn0]; simp [ek']
              · rw [putK_new v hn0, List.map_append, List.map_append]
                refine TRs.append (rs'.mono (H' := H') ew.b fun q o z1 z2 => q2 q o (fun e => by subst e; exact (List.nodup_cons.mp nd).1 z1) (ew.h _ _ z2)) (.cons (on.1.mono (H' := H') (Same.refl _) fun q o z1 z2 => q2 q o (fun e => by subst e; exact npp z1) z2) .nil)
              · rw [List.append_nil]
                have nd' := List.nodup_cons.mp nd
                refine List.nodup_cons.mpr ⟨fun z => ?_, List.nodup_append.mpr ⟨nd'.2, on.2.1, fun x z1 y z2 e => ?_⟩⟩
                · rcases List.mem_append.mp z with z | z
                  · exact nd'.1 z
                  · exact npp z
                · subst e
                  obtain ⟨o, ho⟩ := rs'.there x z1
                  rw [(on.2.2 x z2).1] at ho; cases ho
              · rw [List.append_nil] at z
                have : q ∈ pp :: fp' ∨ q ∈ fn := by
                  rcases List.mem_cons.mp z with z | z
                  · exact .inl (by simp [z])
                  · rcases List.mem_append.mp z with z | z
                    · exact .inl (by simp [z])
                    · exact .inr z
                rcases this with z | z
                · exact ⟨(no q z).1, (no q z).2, .inl z⟩
                · obtain ⟨F, R0⟩ := id R
                  exact ⟨R0.le.h.free (on.2.2 q z).1, (on.2.2 q z).2, .inr (on.2.2 q z).1⟩)
          rw [← h4]
          exact hn w4 σ _ (ew.b.trans b4) R4 p
theorem set_dictO {X : Cx} (hu : X.A.units + 64 < cLine) : PSet X rSetD := set_dict (by omega)
/-! ### enumerate -/
theorem enumD_get : ∀ (ds : List D) (k i : Nat), (enumD k ds)[i]? = (ds[i]?).map fun d => .tup [.int ((k + i : Nat) : Int), d]
  | [], k, i => by simp [enumD]
  | d :: r, k, 0 => by simp [enumD]
  | d :: r, k, i + 1 => by
    rw [enumD, List.getElem?_cons_succ, enumD_get r (k + 1) i, List.getElem?_cons_succ]
    congr 2
    funext d
    rw [show k + 1 + i = k + (i + 1) by omega]
theorem enumD_len : ∀ (ds : List D) (k : Nat), (enumD k ds).length = ds.length
  | [], _ => rfl
  | d :: r, k => by simp [enumD, enumD_len r (k + 1)]
theorem itd_enum {a : Addr} {xs : List V} {ds : List D} {L : Wd → Prop} (h1 : ∀ w, L w → SqL K w.H a xs) (h2 : ∀ w, L w → DrA K w.B ds xs) : ItD K (Ite K a) L (enumD 0 ds) := fun w hw => by
  have s := h1 w hw
  have r := h2 w hw
  refine ⟨fun i d e => ?_, fun i hi => ⟨xs, s, by rw [← r.len, ← enumD_len ds 0]; exact hi⟩⟩
  rw [enumD_get] at e
  cases hd : ds[i]? with
  | none => rw [hd] at e; cases e
  | some d0 =>
    rw [hd] at e; cases e
    obtain ⟨v, hv, rd⟩ := r.get hd
    refine ⟨⟨xs, v, s, hv⟩, fun x H' y => ?_⟩
    obtain ⟨T, x', rfl, hT, rfl, y⟩ := y
    have := y xs s
    rw [hv] at this; cases this
    refine ⟨w.new T _ hT, rfl, Wd.le_new hT, .tup (.inl (.inl upd_same)) (.cons ?_ (.cons (rd.mono (Wd.le_new hT).b) .nil))⟩
    rw [Nat.zero_add]; exact .int _
theorem ei_enum {b : Bool} {Pd : List D → Prop} {i : Nat} {ds : List D} (e : env[i]? = some (.bor ds)) (p : Pd (enumD 0 ds)) : EvI K b (iEnum K (tCons (tVar i) tNil)) env Pd := fun en w σ R Q q => by
  obtain ⟨o, _, h1, _, pp, xs, rfl, h2, r⟩ := R.at e
  exact ⟨.ref pp, h1, pp, xs, rfl, .inl (.inl (R.le.h _ _ h2)), q _ (enumD 0 ds) w w.rfl' p (itd_enum (fun w' l => .inl (.inl ((l.le0 R.le).h _ _ h2))) fun w' l => r.mono l.b)⟩
theorem enum_at {ds : List D} {i : Nat} {d : D} (h : (enumD 0 ds)[i]? = some d) : ∃ d0, ds[i]? = some d0 ∧ d = .tup [.int i, d0] := by
  rw [enumD_get] at h
  cases hd : ds[i]? with
  | none => rw [hd] at h; cases h
  | some d0 => rw [hd] at h; cases h; exact ⟨d0, rfl, by rw [Nat.zero_add]⟩
/-! ### more -/
theorem x_ixTi {ds : List D} {ns : List Int} {k : Int} (e : IL ds ns) (h0 : 0 ≤ k) (h1 : k < ns.length) (p : ∀ v : Int, v ∈ ns → P (.val (.int v))) : RvP K (rIx K) (.val (.tup ds)) (.val (.int k)) P := by
  rw [e.eq]
  refine sixT (atI_ints h0 h1) (p _ ?_)
  rw [List.getD_eq_getElem?_getD, List.getElem?_eq_getElem (by omega)]
  exact List.getElem_mem _
theorem x_ixA {α : Type} {s : Sl} {enc : α → D} {xs : List α} {k : Int} (l : LsS s (xs.map enc)) (h0 : 0 ≤ k) (h1 : k < xs.length) (p : ∀ x, xs[k.toNat]? = some x → P (.val (enc x))) : RvP K (rIx K) s (.val (.int k)) P := by
  have : xs[k.toNat]? = some (xs[k.toNat]'(by omega)) := List.getElem?_eq_getElem _
  exact x_ixE l h0 ⟨_, this, p _ this⟩
def srtd (ks : List Int) : List Int := ks.mergeSort fun a b => decide (a ≤ b)
theorem srt_eq {ks ms : List Int} (hp : ms.Perm ks) (hs : ms.Pairwise (· ≤ ·)) : ms = srtd ks := by
  refine List.Perm.eq_of_pairwise (le := (· ≤ ·)) (fun a b _ _ h1 h2 => Int.le_antisymm h1 h2) hs ?_ (hp.trans (List.mergeSort_perm _ _).symm)
  have := List.pairwise_mergeSort (le := fun a b : Int => decide (a ≤ b)) (fun a b c h1 h2 => by simp only [decide_eq_true_eq] at *; omega) (fun a b => by simp only [Bool.or_eq_true, decide_eq_true_eq]; omega) ks
  exact this.imp fun h => by simpa using h
theorem srtd_len {ks : List Int} : (srtd ks).length = ks.length := (List.mergeSort_perm _ _).length_eq
theorem x_sorted {s : Sl} (h : ∃ ns : List Int, LsS s (ns.map D.int) ∧ P (.own (oL ((srtd ns).map D.int)))) : RaP K (rSortedI K) [s] P := let ⟨_, a, b⟩ := h; ra_sortedI a fun ms h1 h2 => by rw [srt_eq h1 h2]; exact b
theorem any_int (ks : List Int) (k : Int) : ((ks.map D.int).any fun e => eqD e (.int k)) = decide (k ∈ ks) := by
  rw [List.any_map]
  induction ks with
  | nil => rfl
  | cons x r ih =>
    rw [List.any_cons, ih]
    have : eqD (.int x) (.int k) = decide (k = x) := by
      rw [show eqD (.int x) (.int k) = decide (x = k) from rfl]
      by_cases h : x = k
      · simp [h]
      · have h' : ¬ k = x := fun z => h z.symm
        simp [h, h']
    simp only [Function.comp, this, List.mem_cons]
    by_cases h : k = x <;> simp [h]
theorem pl_ints (ks : List Int) : Pl 1 (.lst (ks.map .int)) := .lst 0 _ fun d hd => by
  obtain ⟨r, _, rfl⟩ := List.mem_map.mp hd
  exact .int _ _
theorem d_notInI {s : Sl} {ks : List Int} {k : Int} (l : ToD s (.lst (ks.map .int))) (p : P (.val (.bl (!decide (k ∈ ks))))) : RvP K (rNotInG K) (.val (.int k)) s P :=
  d_notIn 0 1 rfl l (.int _ _) (pl_ints ks) (by decide) (by decide) (by rw [any_int]; exact p)
theorem d_inI {s : Sl} {ks : List Int} {k : Int} (l : ToD s (.lst (ks.map .int))) (p : P (.val (.bl (decide (k ∈ ks))))) : RvP K (rInG K) (.val (.int k)) s P :=
  d_in 0 1 rfl l (.int _ _) (pl_ints ks) (by decide) (by decide) (by rw [any_int]; exact p)
theorem drop_at {α : Type} {xs : List α} {i : Nat} {x : α} (h : xs[i]? = some x) : xs.drop i = x :: xs.drop (i + 1) := by
  obtain ⟨hl, rfl⟩ := List.getElem?_eq_some_iff.mp h
  exact List.drop_eq_getElem_cons hl
theorem eqD_self {n : Nat} {d : D} (h : Pl n d) : eqD d d = true := (eqD_iff h h).mpr rfl
theorem enc_at {α : Type} {enc : α → D} {xs : List α} {i : Nat} {d : D} (h : (xs.map enc)[i]? = some d) : ∃ x, xs[i]? = some x ∧ d = enc x := by
  rw [List.getElem?_map] at h
  cases hx : xs[i]? with
  | none => rw [hx] at h; cases h
  | some x => rw [hx] at h; cases h; exact ⟨x, rfl, rfl⟩
theorem set_key {α : Type} {kvs : List (Key × α)} {j : Nat} {k : Key} {c c' : α} (h : kvs[j]? = some (k, c)) : (kvs.set j (k, c')).map (·.1) = kvs.map (·.1) := by
  induction kvs generalizing j with
  | nil => rfl
  | cons p r ih =>
    cases j with
    | zero => simp at h; subst h; rfl
    | succ j => simp at h; simp [ih h]
theorem getO_set {α : Type} {kvs : List (Key × α)} {j : Nat} {k q : Key} {c c' : α} (nd : (kvs.map (·.1)).Nodup) (h : kvs[j]? = some (k, c)) : getO (kvs.set j (k, c')) q = if q = k then some c' else getO kvs q := by
  induction kvs generalizing j with
  | nil => simp at h
  | cons p r ih =>
    have nd' := List.nodup_cons.mp nd
    cases j with
    | zero =>
      simp at h; subst h
      rw [List.set_cons_zero]
      by_cases e : k = q
      · rw [getO_pos e, if_pos e.symm]
      · rw [getO_neg e, getO_neg e, if_neg fun z => e z.symm]
    | succ j =>
      simp at h
      rw [List.set_cons_succ]
      by_cases e : p.1 = q
      · rw [getO_pos e, getO_pos e]
        have : ¬ q = k := fun z => nd'.1 (List.mem_map.mpr ⟨(k, c), List.mem_of_getElem? h, (z ▸ e.symm : k = p.1)⟩)
        rw [if_neg this]
      · rw [getO_neg e, getO_neg e]; exact ih nd'.2 h
theorem x_keyI {i : Int} {Q : Key → Prop} (h : Q (.inl i)) : ∃ k, Sl.val (.int i) = .val (keyD k) ∧ Q k := ⟨.inl i, rfl, h⟩
theorem x_keyS {i : Str} {Q : Key → Prop} (h : Q (.inr i)) : ∃ k, Sl.val (.str i) = .val (keyD k) ∧ Q k := ⟨.inr i, rfl, h⟩
theorem x_getO {xs : List (Key × OT)} {k : Key} {c : OT} {Q : OT → Prop} (e : getO xs k = some c) (h : Q c) : ∃ c, getO xs k = some c ∧ Q c := ⟨c, e, h⟩
theorem wp_appNL {tr : TE} (h : EvN K tr env fun i s f => ∃ ds, s = oL ds ∧ ds.length < 1000000 ∧ EvE K te env fun s2 => ∃ d, Frz s2 d ∧ Pp.nx (putS env i (f (oL (ds ++ [d]))))) :
    Wp K (tDrop (tBM K "list" rAppend tr (tCons te tNil))) env Pp :=
  wp_appN fun en w σ R Q q => h en w σ R Q fun i t s f vr u w' e1 e2 e3 e4 p => q i t s f vr u w' e1 e2 e3 e4 (by
    obtain ⟨ds, e, hl, p⟩ := p
    exact ⟨ds.map .imm, e, by simpa using hl, p.imp fun s2 ⟨d, fz, z⟩ => ⟨d, fz, by rw [oL_app]; exact z⟩⟩)
theorem en_own {i : Nat} {Pn : Nat → OT → (OT → OT) → Prop} (h : ∃ t, env[i]? = some (.own t) ∧ Pn i t id) : EvN K (tVar i) env Pn := let ⟨_, e, p⟩ := h; en_var (.inl e) p
theorem en_io {i : Nat} {Pn : Nat → OT → (OT → OT) → Prop} (h : ∃ t, env[i]? = some (.io t) ∧ Pn i t id) : EvN K (tVar i) env Pn := let ⟨_, e, p⟩ := h; en_var (.inr e) p
theorem x_dgetI {s : Sl} {k : Int} (h : ∃ xs, TdS s xs ∧ ∃ c, getO xs (.inl k) = some c ∧ P (chS c)) : RvP K rDG s (.val (.int k)) P := let ⟨xs, a, c, b, d⟩ := h; x_dget (k := .inl k) rfl ⟨xs, c, a, b, d⟩
theorem ixN_pos {n : Nat} {k : Int} (h0 : 0 ≤ k) (h1 : k < n) : ixN n k = some k.toNat := by
  unfold ixN
  simp only [h0, h1, if_true, true_and, and_self]
theorem x_ixJ {n : Nat} {k : Int} {Q : Nat → Prop} (h0 : 0 ≤ k) (h1 : k < n) (h : Q k.toNat) : ∃ k' j, Sl.val (.int k) = .val (.int k') ∧ ixN n k' = some j ∧ j < n ∧ Q j := ⟨k, k.toNat, rfl, ixN_pos h0 h1, by omega, h⟩
end
end DL

set_option Elab.async false
set_option linter.all false
set_option maxRecDepth 100000
set_option autoImplicit false
namespace DL
open PySem L2
/-! ### instances of own classes -/
section
variable {K : PySem.W.Frag} {B H : Hp}
theorem look_ok {xs : List (Str × OT)} : ∀ {vs : List (Str × V)} {fp : List Addr} {k : Str} {c : OT}, vs.map (·.1) = xs.map (·.1) → TRs K B H (xs.map (·.2)) (vs.map (·.2)) fp → xs.lookup k = some c →
    ∃ (u : V) (fs : List Addr) (j : Nat), vs.lookup k = some u ∧ TR K B H c u fs ∧ xs[j]? = some (k, c) ∧ vs[j]? = some (k, u) := by
  induction xs with
  | nil => intro vs fp k c e r h; cases h
  | cons p r ih =>
    intro vs fp k c e t h
    cases vs with
    | nil => cases e
    | cons q s =>
      obtain ⟨p1, p2⟩ := p
      obtain ⟨q1, q2⟩ := q
      simp only [List.map_cons, List.cons.injEq] at e t
      obtain ⟨rfl, e⟩ := e
      cases t with
      | cons t1 t2 =>
        by_cases hk : k = q1
        · subst hk
          simp only [List.lookup_cons_self, Option.some.injEq] at h
          subst h
          exact ⟨q2, _, 0, by simp, t1, rfl, rfl⟩
        · have hk' : (k == q1) = false := by simpa using hk
          rw [List.lookup_cons, hk'] at h
          obtain ⟨u, fs, j, a, b, c1, c2⟩ := ih e t2 h
          exact ⟨u, fs, j + 1, by rw [List.lookup_cons, hk']; exact a, b, c1, c2⟩
theorem look_none {xs : List (Str × OT)} : ∀ {vs : List (Str × V)} {k : Str}, vs.map (·.1) = xs.map (·.1) → xs.lookup k = none → vs.lookup k = none := by
  induction xs with
  | nil => intro vs k e h; cases vs with | nil => rfl | cons _ _ => cases e
  | cons p r ih =>
    intro vs k e h
    cases vs with
    | nil => cases e
    | cons q s =>
      obtain ⟨p1, p2⟩ := p
      obtain ⟨q1, q2⟩ := q
      simp only [List.map_cons, List.cons.injEq] at e
      obtain ⟨rfl, e⟩ := e
      by_cases hk : k = q1
      · subst hk; simp at h
      · have hk' : (k == q1) = false := by simpa using hk
        rw [List.lookup_cons, hk'] at h ⊢
        exact ih e h
end
section
variable {K : PySem.W.Frag} {env : List Sl} {P P' : Sl → Prop} {Pp : Post} {w w' w'' : Wd} {te ta tb td ti : TE} {tA : TA} {en : En}
inductive TiS : Sl → Addr → List (Str × OT) → Prop
  | brt {C : Addr} {xs : List (Str × OT)} : TiS (.brt (.ins C xs)) C xs
  | own {C : Addr} {xs : List (Str × OT)} : TiS (.own (.ins C xs)) C xs
theorem TiS.tr {s : Sl} {C : Addr} {xs : List (Str × OT)} {x : V} (l : TiS s C xs) (r : SlN K w w' s x) : ∃ a dx vs fp, x = .ref a ∧ w'.H a = some (.ins C dx vs) ∧ vs.map (·.1) = xs.map (·.1) ∧ TRs K w'.B w'.H (xs.map (·.2)) (vs.map (·.2)) fp := by
  have : ∃ f', TR K w'.B w'.H (.ins C xs) x f' := by
    cases l with
    | brt => exact r
    | own => obtain ⟨f, r, _⟩ := r; exact ⟨f, r⟩
  obtain ⟨f', r2⟩ := this
  cases r2 with
  | ins h e r3 => exact ⟨_, _, _, _, rfl, h, e, r3⟩
/-- e.f -/
theorem ev_fldT {f : Str} (h : EvE K te env fun s => ∃ C xs, TiS s C xs ∧ Cls K C ∧ NoAttr K C f ∧ ∃ c, xs.lookup f = some c ∧ P (chS c)) : EvE K (tFld K te f) env P := fun en w σ R Q q =>
  h en w σ R _ fun s v w1 e1 p r => by
    obtain ⟨C, xs, l, c1, c2, c, e, p⟩ := p
    obtain ⟨a, dx, vs, fp, rfl, ha, ek, rs⟩ := l.tr r
    obtain ⟨u, fs, j, e2, t, _, _⟩ := look_ok ek rs e
    exact ⟨a, C, dx, vs, u, rfl, ha, c1, c2, e2, q _ _ w1 e1 p (chS_ok t)⟩
/-- a node: a field -/
theorem en_fld {f : Str} {Pn : Nat → OT → (OT → OT) → Prop} (h : EvN K tb env fun i s g => ∃ C xs, s = .ins C xs ∧ Cls K C ∧ NoAttr K C f ∧ ∃ c, xs.lookup f = some c ∧ (∀ j : Nat, xs[j]? = some (f, c) → Pn i c (fun x => g (.ins C (xs.set j (f, x)))))) : EvN K (tFld K tb f) env Pn := fun en w σ R Q q =>
  h en w σ R _ fun i t s g vr u w1 e1 et hv a p => by
    obtain ⟨C, xs, rfl, c1, c2, c, e, p⟩ := p
    obtain ⟨fs, tr⟩ := (R.grow e1).nodeTR et hv a
    cases tr with
    | @ins pp _ dx _ vs fp hp ek rs =>
      obtain ⟨cv, fs, j, hcv, _, j1, j2⟩ := look_ok ek rs e
      exact ⟨pp, C, dx, vs, cv, rfl, hp, c1, c2, hcv, q i t c _ vr cv w1 e1 et hv (a.trans (.ins hp j1 j2 .here)) (p j j1)⟩
/-- o.m(..) -/
theorem ev_meth {C : Addr} {m : Str} {S : SpD} {E : XK} (h : EvE K te env fun s0 => ∃ xs, TiS s0 C xs ∧ xs.lookup m = none ∧ EvA K tA env fun ss => ∃ ts, Paired Co (.brt (.ins C xs) :: ss) ts ∧ S ts P) : EvE K (tMeth C m (spD K S) [] E te tA) env P := fun en w σ R Q q =>
  h en w σ R _ fun s0 v0 w0 e0 p0 r0 => by
    obtain ⟨xs, l, e, p⟩ := p0
    obtain ⟨a, dx, vs0, fp, rfl, ha, ek, rs⟩ := l.tr r0
    refine ⟨a, dx, vs0, rfl, ha, look_none ek e, p en w0 σ (R.grow e0) _ fun ss vs w1 e1 h1 r1 => ?_⟩
    obtain ⟨ts, c, p⟩ := h1
    rw [List.append_nil]
    have rt : TR K w1.B w1.H (.ins C xs) (.ref a) (a :: fp) := .ins (e1.h _ _ ha) ek (rs.mono (H' := w1.H) e1.b fun q o _ z => e1.h _ _ z)
    have r2 : SlA K w0 w1 (.brt (.ins C xs) :: ss) (.ref a :: vs) := .cons ⟨_, rt⟩ r1
    obtain ⟨hl, hk⟩ := coA (us := .ref a :: vs) c r2
    exact ⟨⟨w1, .ref a :: vs⟩, w1, ts, fun s _ => P s, rfl, rfl, ⟨fun _ => [], w1.rfl', by simp [hl], by simp [hl], fun i t o a b => hk i t o a b i, fun i j p _ _ z => by simp at z⟩, by simpa using p, fun s v w' as' st _ R' z =>
      q s v w' ((e0.trans e1).trans R'.le) z ((Rel.last st R').back (e0.trans e1))⟩
end
section
variable {K : PySem.W.Frag} {B H : Hp}
def putFO (f : Str) (t : OT) : List (Str × OT) → List (Str × OT)
  | [] => [(f, t)]
  | (g, x) :: r => if g = f then (g, t) :: r else (g, x) :: putFO f t r
theorem putFO_ok {f : Str} {t : OT} {y : V} {fn : List Addr} (ht : TR K B H t y fn) {xs : List (Str × OT)} : ∀ {vs : List (Str × V)} {fp : List Addr}, vs.map (·.1) = xs.map (·.1) → TRs K B H (xs.map (·.2)) (vs.map (·.2)) fp →
    (putF f y vs).map (·.1) = (putFO f t xs).map (·.1) ∧ ∃ g fp', g.Sublist fp ∧ fp'.Perm (g ++ fn) ∧ TRs K B H ((putFO f t xs).map (·.2)) ((putF f y vs).map (·.2)) fp' := by
  induction xs with
  | nil =>
    intro vs fp e r
    cases vs with
    | nil => cases r; exact ⟨rfl, [], fn ++ [], .slnil, by simp, .cons ht .nil⟩
    | cons _ _ => cases e
  | cons p r ih =>
    intro vs fp e hr
    cases vs with
    | nil => cases e
    | cons q s =>
      obtain ⟨p1, p2⟩ := p
      obtain ⟨q1, q2⟩ := q
      simp only [List.map_cons, List.cons.injEq] at e hr
      obtain ⟨rfl, e⟩ := e
      cases hr with
      | @cons _ _ f1 f2 _ _ h1 h2 =>
        by_cases hk : q1 = f
        · unfold putF putFO
          rw [if_pos hk, if_pos hk]
          exact ⟨by simp [e], f2, fn ++ f2, List.sublist_append_right _ _, List.perm_append_comm, .cons ht h2⟩
        · unfold putF putFO
          rw [if_neg hk, if_neg hk]
          obtain ⟨a, g, fp', b, c, d⟩ := ih e h2
          exact ⟨by simp [a], f1 ++ g, f1 ++ fp', List.Sublist.append (List.Sublist.refl _) b, by rw [List.append_assoc]; exact c.append_left f1, .cons h1 d⟩
end
section
variable {K : PySem.W.Frag} {env : List Sl} {P P' : Sl → Prop} {Pp : Post} {w w' w'' : Wd} {te ta tb td ti : TE} {tA : TA} {en : En}
/-- what may be moved into a tree -/
inductive OS : Sl → OT → Prop
  | own {t : OT} : OS (.own t) t
  | val {d : D} : OS (.val d) (.imm d)
theorem OS.tr {s : Sl} {t : OT} {v : V} (o : OS s t) (r : SlN K w w' s v) : ∃ fn, Own K w.H w' t v fn := by
  cases o with
  | own => exact r
  | val => exact ⟨[], .imm r, by simp, by simp⟩
/-- a variable's own tree taken out -/
theorem Rel.carve {i : Nat} {t : OT} {σ : TSt} (R : Rel K en w env σ) (e : env[i]? = some (.own t)) :
    ∃ (w0 : Wd) (v : V) (fn : List Addr), σ[i]? = some (some v) ∧ w0.le w ∧ Rel K en w0 (env.set i .un) σ ∧ Own K w0.H w t v fn := by
  obtain ⟨F, R⟩ := R
  have hil : i < env.length := (List.getElem?_eq_some_iff.mp e).1
  obtain ⟨s, o, q1, q2⟩ := slot_at hil R.len
  rw [e] at q1; cases q1
  obtain ⟨v, rfl, tr, nd, no⟩ := R.sl i _ _ e q2
  have sub0 : ∀ p x, w.B p = some x → (if p ∈ F i then none else w.H p) = some x := fun p x z => by
    rw [if_neg (fun z' => by rw [(no p z').2] at z; cases z)]; exact w.sub p x z
  let w0 : Wd := ⟨w.B, fun p => if p ∈ F i then none else w.H p, sub0, fun a k e => w.kt a k (by
      dsimp only at e
      by_cases z : a ∈ F i
      · rw [if_pos z] at e; cases e
      · rw [if_neg z] at e; exact e)⟩
  have hle : w0.le w := ⟨Same.refl _, fun p x z => by
    by_cases h : p ∈ F i
    · simp only [w0, h, if_true] at z; cases z
    · simp only [w0, h, if_false] at z; exact z, fun p x z => rfl⟩
  refine ⟨w0, v, F i, q2, hle, ⟨fun j => if j = i then [] else F j, ⟨R.le.b, fun p x z => ?_, fun p x z => R.le.f p x z⟩, by simpa using R.len, by simpa using R.an, fun j s o a b => ?_, fun j k p hj hk a b => ?_⟩, ?_⟩
  · have : ¬ p ∈ F i := fun z' => by rw [(no p z').1] at z; cases z
    show (if p ∈ F i then none else w.H p) = some x
    rw [if_neg this]; exact R.le.h p x z
  · by_cases hj : j = i
    · subst hj
      rw [List.getElem?_set_self hil] at a; cases a
      simp [SlS]
    · rw [List.getElem?_set_ne (fun z => hj z.symm)] at a
      rw [if_neg hj]
      have hjl : j < env.length := (List.getElem?_eq_some_iff.mp a).1
      have key : ∀ p x, p ∈ F j → w.H p = some x → w0.H p = some x ∧ (w.B p = none → w0.B p = none) := fun p x z1 z2 => ⟨by
        have : ¬ p ∈ F i := fun z' => hj (R.ap j i p hjl hil z1 z')
        show (if p ∈ F i then none else w.H p) = some x
        rw [if_neg this]; exact z2, fun n => n⟩
      exact (R.sl j s o a b).keep (show Same w.B w0.B from Same.refl w.B) key
  · by_cases h1 : j = i
    · rw [if_pos h1] at a; simp at a
    · by_cases h2 : k = i
      · rw [if_pos h2] at b; simp at b
      · rw [if_neg h1] at a; rw [if_neg h2] at b
        exact R.ap j k p (by simpa using hj) (by simpa using hk) a b
  · refine ⟨tr, nd, fun p z => ⟨?_, (no p z).2⟩⟩
    show (if p ∈ F i then none else w.H p) = none
    rw [if_pos z]
end
section
variable {K : PySem.W.Frag} {env : List Sl} {P P' : Sl → Prop} {Pp : Post} {w w' w'' w3 : Wd} {te ta tb td ti : TE} {tA : TA} {en : En}
theorem core_fld {f : Str} {t tt : OT} {C : Addr} {xs : List (Str × OT)} {i : Nat} {g : OT → OT} {vr u y : V} {fn : List Addr} {σ : TSt} (R : Rel K en w env σ) (ew : w.le w3) (on : Own K w.H w3 t y fn)
    (et : env[i]? = some (.own tt) ∨ env[i]? = some (.io tt)) (hv : σ[i]? = some (some vr)) (a : AtV w3.H tt vr (.ins C xs) u g) :
    ∃ p dx vs, u = .ref p ∧ w3.H p = some (.ins C dx vs) ∧ vs.length = xs.length ∧ ∃ w4 : Wd, w4.H = upd w3.H p (.ins C dx (putF f y vs)) ∧ Same w3.B w4.B ∧ Rel K en w4 (putS env i (g (.ins C (putFO f t xs)))) σ := by
  obtain ⟨fs, ts⟩ := (R.grow ew).nodeTR et hv a
  cases ts with
  | @ins pp _ dx _ vs fp hp ek rs =>
    refine ⟨pp, dx, vs, rfl, hp, by simpa using congrArg List.length ek, ?_⟩
    refine R.write2 (s' := .ins C (putFO f t xs)) (o' := .ins C dx (putF f y vs)) ew et hv a (fun fs ts nd no => ?_)
    cases ts with
    | @ins _ _ dx' _ vs' fp' hp' ek' rs' =>
      have hp'' := ew.h _ _ hp'
      rw [hp] at hp''; cases hp''
      have npp : pp ∉ fn := fun z => by rw [(on.2.2 pp z).1] at hp'; cases hp'
      have nd' := List.nodup_cons.mp nd
      refine ⟨by simp, fun H' q1 q2 => ?_⟩
      have t1 := on.1.mono (H' := H') (Same.refl _) fun q o z1 z2 => q2 q o (fun e => by subst e; exact npp z1) z2
      have t2 := rs'.mono (B' := w3.B) (H' := H') ew.b fun q o z1 z2 => q2 q o (fun e => by subst e; exact nd'.1 z1) (ew.h _ _ z2)
      obtain ⟨k1, g1, fp2, b, c, d⟩ := putFO_ok (f := f) t1 ek' t2
      have disj : ∀ q, q ∈ g1 → q ∈ fn → False := fun q z1 z2 => by
        obtain ⟨o, ho⟩ := rs'.there q (b.subset z1)
        rw [(on.2.2 q z2).1] at ho; cases ho
      have nd2 : fp2.Nodup := c.nodup_iff.mpr (List.nodup_append.mpr ⟨b.nodup nd'.2, on.2.1, fun x z1 y z2 e => disj x z1 (e ▸ z2)⟩)
      have mem : ∀ q, q ∈ fp2 → q ∈ fp' ∨ q ∈ fn := fun q z => by
        rcases List.mem_append.mp (c.mem_iff.mp z) with z | z
        · exact .inl (b.subset z)
        · exact .inr z
      refine ⟨pp :: fp2, .ins q1 k1 d, List.nodup_cons.mpr ⟨fun z => ?_, nd2⟩, fun q z => ?_⟩
      · rcases mem _ z with z | z
        · exact nd'.1 z
        · exact npp z
      · have : q ∈ pp :: fp' ∨ q ∈ fn := by
          rcases List.mem_cons.mp z with z | z
          · exact .inl (by simp [z])
          · rcases mem _ z with z | z
            · exact .inl (by simp [z])
            · exact .inr z
        rcases this with z | z
        · exact ⟨(no q z).1, (no q z).2, .inl z⟩
        · obtain ⟨F, R0⟩ := id R
          exact ⟨R0.le.h.free (on.2.2 q z).1, (on.2.2 q z).2, .inr (on.2.2 q z).1⟩
/-- o.f = value, what the value is moved into the object -/
theorem wp_fld {f : Str} (h : EvE K te env fun s => ∃ t, OS s t ∧ EvN K ta env fun i s g => ∃ C xs, s = .ins C xs ∧ Cls K C ∧ NoAttr K C f ∧ xs.length < 1000 ∧ Pp.nx (putS env i (g (.ins C (putFO f t xs))))) :
    Wp K (sFld K ta te f) env Pp := fun en w σ R D hn _ _ _ =>
  h en w σ R _ fun s v w1 e1 p1 r1 => by
    obtain ⟨t, os, p⟩ := p1
    obtain ⟨fn, on⟩ := os.tr r1
    exact p en w1 σ (R.grow e1) _ fun i tt s g vr u w2 e2 et hv a p => by
      obtain ⟨C, xs, rfl, c1, c2, hl, p⟩ := p
      obtain ⟨pp, dx, vs, rfl, hp, hvl, w4, h4, b4, R4⟩ := core_fld (f := f) R (e1.trans e2) (on.grow e2) et hv a
      refine ⟨pp, C, dx, vs, rfl, hp, c1, c2, by rw [hvl]; exact hl, ?_⟩
      rw [← h4]
      exact hn w4 σ _ ((e1.trans e2).b.trans b4) R4 p
/-- o.f = x, the tree of the variable x moved into the object -/
theorem wp_fldM {f : Str} {j : Nat} {t : OT} (e : env[j]? = some (.own t)) (h : EvN K ta (env.set j .un) fun i s g => ∃ C xs, s = .ins C xs ∧ Cls K C ∧ NoAttr K C f ∧ xs.length < 1000 ∧ Pp.nx (putS (env.set j .un) i (g (.ins C (putFO f t xs))))) :
    Wp K (sFld K ta (tVar j) f) env Pp := fun en w σ R D hn _ _ _ => by
  obtain ⟨w0, v, fn, hj, e0, R0, on⟩ := R.carve e
  refine ⟨v, hj, h en w σ (R0.grow e0) _ fun i tt s g vr u w2 e2 et hv a p => ?_⟩
  obtain ⟨C, xs, rfl, c1, c2, hl, p⟩ := p
  obtain ⟨pp, dx, vs, rfl, hp, hvl, w4, h4, b4, R4⟩ := core_fld (f := f) R0 (e0.trans e2) (on.grow e2) et hv a
  refine ⟨pp, C, dx, vs, rfl, hp, c1, c2, by rw [hvl]; exact hl, ?_⟩
  rw [← h4]
  exact hn w4 σ _ (e2.b.trans b4) R4 p
/-- C(..): an instance of one's own -/
theorem ev_make {C : Addr} {S : SpM} {E : XK} (h : EvA K tA env fun ss => ∃ ts, Paired Co ss ts ∧ S (.io (.ins C []) :: ts) fun s as' => s = .val .non ∧ ∃ t, as'[0]? = some (.io t) ∧ P (.own t)) : EvE K (tMake C (spM K S) [] E tA) env P := fun en w σ R Q q =>
  h en w σ R _ fun ss vs w1 e1 h1 r1 => by
    obtain ⟨ts, c, p⟩ := h1
    intro x dx hx hdx hne
    rw [List.append_nil]
    have hx2 : (w1.lay dx (.own x) hdx).H x = none := by
      show upd w1.H dx (.own x) x = none
      rw [upd_ne (fun z => hne z.symm)]; exact hx
    let w2 : Wd := (w1.lay dx (.own x) hdx).lay x (.ins C dx []) hx2
    have e2 : w1.le w2 := (Wd.le_lay hdx).trans (Wd.le_lay hx2)
    obtain ⟨hl, hk⟩ := coA (us := V.ref x :: vs) c r1
    refine ⟨⟨w1, .ref x :: vs⟩, w2, .io (.ins C []) :: ts, _, rfl, rfl, ⟨fun i => if i = 0 then [x] else [], e2, by simp [hl], by simp [hl], fun i t o a b => ?_, fun i j p _ _ z1 z2 => ?_⟩, p, fun s v w' as' st sb R' z => ?_⟩
    · cases i with
      | zero =>
        simp at a b; subst a b
        refine ⟨⟨_, rfl, .ins upd_same rfl .nil, by simp, fun q z => ?_⟩, rfl⟩
        simp at z; subst z
        exact ⟨hx, (show w1.B q = none from Wd.freeB hx)⟩
      | succ i =>
        rw [if_neg (by omega)]
        exact (hk i t o (by simpa using a) (by simpa using b) (i + 1)).grow e2
    · by_cases h1 : i = 0
      · by_cases h2 : j = 0
        · rw [h1, h2]
        · rw [if_neg h2] at z2; simp at z2
      · rw [if_neg h1] at z1; simp at z1
    · obtain ⟨rfl, t, ht, pt⟩ := z
      have hr := (Rel.last (.val _) R')
      cases hr
      refine ⟨rfl, q (.own t) (.ref x) w' (e1.trans R'.le) pt ?_⟩
      obtain ⟨o, fp, h1, h2⟩ := R'.at (i := 0) (s := .io t) (by
        rw [List.getElem?_append_left (by cases as' with | nil => simp at ht | cons _ _ => simp)]; exact ht)
      obtain ⟨⟨v', ev, ow⟩, ea⟩ := h2
      simp at h1; subst h1; cases ev
      obtain ⟨a1, a2, a3⟩ := ow
      exact ⟨fp, a1, a2, fun p z => ⟨e1.h.free (a3 p z).1, (a3 p z).2⟩⟩
end
end DL
namespace DL
theorem ex_osO {t : OT} {Q : OT → Prop} (h : Q t) : ∃ x, OS (.own t) x ∧ Q x := ⟨t, .own, h⟩
theorem ex_osV {d : D} {Q : OT → Prop} (h : Q (.imm d)) : ∃ x, OS (.val d) x ∧ Q x := ⟨_, .val, h⟩
end DL

set_option Elab.async false
set_option linter.all false
set_option maxRecDepth 100000
set_option autoImplicit false
namespace DL
open PySem L2
/-! ### what is never reached -/
def tNo : TE := fun _ _ _ => False
def sNo : TS := fun _ _ _ => False
theorem pe_no {X : Cx} {e : Expr} : PE X e tNo := ⟨fun _ _ _ _ _ _ h => h.elim⟩
theorem ps_no {X : Cx} {st : Stmt} : PS X st sNo := ⟨fun _ _ _ _ _ _ h => h.elim⟩
structure Gint (mg : Str → Option Value) (x : Str) (i : Int) : Prop where
  ex : ∃ t, mg x = some (.int i t)
theorem pe_gint {X : Cx} {x : Str} {i : Int} {pos : Pos} (hg : Gl X x) (G : Gint X.mg x i) (hd : (x == ("__debug__" : Str)) = false := by decide) : PE X (.Name x pos) (tC (.int i)) := by
  obtain ⟨t, e⟩ := G.ex
  exact pe_glob hg e (by first | rfl | exact ⟨_, rfl⟩) hd
/-! ### classes: what is known of one -/
/-- a class that is made by its own __init__ -/
structure CalM (Pr : Program) (wd : World) (K : PySem.W.Frag) (mg : Str → Option Value) (base : Heap) (x : Str) (C : Addr) (k : Nat) (ps : List Str) (sp : Sp) : Prop where
  ex : ∃ f fd, Mk K C f ∧ FnOk Pr wd K mg base CX0 k f fd ps sp ∧ mg x = some (.ref C) ∧ Binds K fd ps []
theorem pe_mkC {X : Cx} {x : Str} {C : Addr} {k : Nat} {ps : List Str} {sp : Sp} {p pos : Pos} {e : Expr} {es : List Expr} {t : TA} (G : CalM X.prog X.w X.K X.mg X.base x C k ps sp) (hr : Room (k + 1) X.A) (hg : Gl X x) (ha : PA X (e :: es) t)
    (hdb : (x == ("__debug__" : Str)) = false := by decide) (he : starEach (e :: es) X.env = (false, eval e X.env) :: starEach es X.env := by rfl) (hpl : (backTo pos (starEach es X.env)).any (·.1) = false := by rfl) :
    PE X (.Call (.Name x p) (e :: es) [] pos) (tMake C sp [] E0 t) := by
  obtain ⟨f, fd, M, F, hm, hb⟩ := G.ex
  exact pe_make M F hr hg hm hb .nil pass0 ha hdb he hpl
theorem pe_mkC0 {X : Cx} {x : Str} {C : Addr} {k : Nat} {ps : List Str} {sp : Sp} {p pos : Pos} (G : CalM X.prog X.w X.K X.mg X.base x C k ps sp) (hr : Room (k + 1) X.A) (hg : Gl X x)
    (hdb : (x == ("__debug__" : Str)) = false := by decide) : PE X (.Call (.Name x p) [] [] pos) (tMake C sp [] E0 tNil) := by
  obtain ⟨f, fd, M, F, hm, hb⟩ := G.ex
  exact pe_make0 M F hr hg hm hb .nil pass0 hdb
/-- a method -/
structure CalE (Pr : Program) (wd : World) (K : PySem.W.Frag) (mg : Str → Option Value) (base : Heap) (C : Addr) (m : Str) (k : Nat) (ps : List Str) (sp : Sp) : Prop where
  ex : ∃ f fd, Cls K C ∧ Meth K C m f ∧ FnOk Pr wd K mg base CX0 k f fd ps sp ∧ Binds K fd ps []
theorem pe_mthC {X : Cx} {C : Addr} {m : Str} {k : Nat} {ps : List Str} {sp : Sp} {apos pos : Pos} {o e : Expr} {es : List Expr} {ta : TE} {t : TA} {pl : Sem Bool} (G : CalE X.prog X.w X.K X.mg X.base C m k ps sp) (hr : Room k X.A) (he : PE X o ta) (ha : PA X (e :: es) t)
    (hst : starEach (e :: es) X.env = (false, eval e X.env) :: starEach es X.env := by rfl) (hpl : (backTo pos (starEach es X.env)).any (·.1) = false := by rfl)
    (ht : eval (.Call (.Attribute o m apos) (e :: es) [] pos) X.env = (do
      let ov ← eval o X.env
      standAt apos.atName
      let (f, first) ← holding [ov] (getMethod ov m pl)
      callWith pos f first (backTo pos (starEach (e :: es) X.env)) (backToKw pos (keywordEach [] X.env))) := by rfl) :
    PE X (.Call (.Attribute o m apos) (e :: es) [] pos) (tMeth C m sp [] E0 ta t) := by
  obtain ⟨f, fd, c, hm, F, hb⟩ := G.ex
  exact pe_meth he c hm F hr hb .nil pass0 ha hst hpl ht
theorem pe_mthC0 {X : Cx} {C : Addr} {m : Str} {k : Nat} {ps : List Str} {sp : Sp} {apos pos : Pos} {o : Expr} {ta : TE} {pl : Sem Bool} (G : CalE X.prog X.w X.K X.mg X.base C m k ps sp) (hr : Room k X.A) (he : PE X o ta)
    (ht : eval (.Call (.Attribute o m apos) [] [] pos) X.env = (do
      let ov ← eval o X.env
      standAt apos.atName
      let (f, first) ← holding [ov] (getMethod ov m pl)
      callWith pos f first (backTo pos (starEach [] X.env)) (backToKw pos (keywordEach [] X.env))) := by rfl) :
    PE X (.Call (.Attribute o m apos) [] [] pos) (tMeth C m sp [] E0 ta tNil) := by
  obtain ⟨f, fd, c, hm, F, hb⟩ := G.ex
  exact pe_meth0 he c hm F hr hb .nil pass0 ht
theorem ps_fldK {X : Cx} {K : PySem.W.Frag} {o value : Expr} {f : Str} {pos pos' : Pos} {ta tv : TE} (ha : PE X o ta) (hv : PE X value tv) (hs : swapsWith value (some (.Attribute o f pos')) pos.line X.env = pure false) (hK : X.K = K := by rfl) : PS X (.Assign [.Attribute o f pos'] value pos) (sFld K ta tv f) := hK ▸ ps_fld ha hv hs
section
variable {K : PySem.W.Frag} {env : List Sl} {P P' : Sl → Prop} {Pp : Post} {w w' w'' w3 : Wd} {te ta tb tc td ti : TE} {tA : TA} {en : En}
/-- a ∘ b ∘' c -/
theorem ev_chain {r r' : R2} (h : EvE K ta env fun s1 => EvE K tb env fun s2 => RvP K r s1 s2 fun s => ∃ k, s = .val (.bl k) ∧ (k = true → EvE K tc env fun s3 => RvP K r' s2 s3 P) ∧ (k = false → P (.val (.bl false)))) : EvE K (tChain r r' ta tb tc) env P := fun en w σ R Q q =>
  h en w σ R _ fun s1 x w1 e1 p1 r1 => p1 en w1 σ (R.grow e1) _ fun s2 y w2 e2 p2 r2 =>
    p2 w w2 x y (e1.trans e2) (r1.grow e2) (r2.back e1) _ fun s z w3 e3 p3 r3 => by
      obtain ⟨k, rfl, pt, pf⟩ := p3
      cases r3
      refine ⟨k, rfl, ?_⟩
      cases k with
      | false =>
        rw [if_neg (by decide)]
        exact q _ _ w3 ((e1.trans e2).trans e3) (pf rfl) (.bl _)
      | true =>
        rw [if_pos rfl]
        exact pt rfl en w3 σ (R.grow ((e1.trans e2).trans e3)) _ fun s3 v w4 e4 p4 r4 =>
          p4 w w4 y v (((e1.trans e2).trans e3).trans e4) ((r2.back e1).grow (e3.trans e4)) (r4.back ((e1.trans e2).trans e3)) _ fun s5 v5 w5 e5 p5 r5 =>
            q s5 v5 w5 ((((e1.trans e2).trans e3).trans e4).trans e5) p5 r5
end
end DL

set_option Elab.async false
set_option linter.all false
set_option maxRecDepth 100000
set_option autoImplicit false
namespace DL
open PySem L2
/-! ### expressions that change a tree of the frame -/
def EvM (K : PySem.W.Frag) (te : TE) (env : List Sl) (P : Sl → List Sl → Prop) : Prop := ∀ (en : En) (w : Wd) (σ : TSt), Rel K en w env σ → ∀ Q : VK,
  (∀ s v (w' : Wd) env', StS s → Same w.B w'.B → Rel K en w' (env' ++ [s]) (σ ++ [some v]) → P s env' → Q v w'.H) → te σ w.H Q
section
variable {K : PySem.W.Frag} {env : List Sl} {Pp : Post} {w w' w'' w3 : Wd} {te ta tb tc td ti : TE} {tA : TA} {en : En} {Pm : Sl → List Sl → Prop}
/-- the world without some objects of one's own -/
theorem carve_world (w : Wd) (F : List Addr) (no : ∀ p ∈ F, w.B p = none) : ∃ w0 : Wd, w0.B = w.B ∧ (∀ p, p ∈ F → w0.H p = none) ∧ (∀ p, ¬ p ∈ F → w0.H p = w.H p) ∧ w0.le w := by
  have sub0 : ∀ p x, w.B p = some x → (if p ∈ F then none else w.H p) = some x := fun p x z => by
    rw [if_neg (fun z' => by rw [no p z'] at z; cases z)]; exact w.sub p x z
  refine ⟨⟨w.B, fun p => if p ∈ F then none else w.H p, sub0, fun a k e => w.kt a k (by
      dsimp only at e
      by_cases z : a ∈ F
      · rw [if_pos z] at e; cases e
      · rw [if_neg z] at e; exact e)⟩, rfl, fun p h => if_pos h, fun p h => if_neg h, ⟨Same.refl _, fun p x z => ?_, fun p x z => rfl⟩⟩
  by_cases h : p ∈ F
  · simp only [h, if_true] at z; cases z
  · simp only [h, if_false] at z; exact z
/-- a callee changes the tree of slot i -/
theorem back_io {i : Nat} {t t' : OT} {s : Sl} {v v0 : V} {vs : List V} {as' : List Sl} {σ : TSt} {F : Nat → List Addr} {w0 w1 : Wd} (R : RelF K en w1 env σ F) (e : env[i]? = some (.own t) ∨ env[i]? = some (.io t)) (hv : σ[i]? = some (some v0))
    (hB : w0.B = w1.B) (h1 : ∀ p, p ∈ F i → w0.H p = none) (h2 : ∀ p, ¬ p ∈ F i → w0.H p = w1.H p)
    (st : StS s) (sb : Same w1.B w'.B) (R' : Rel K ⟨w0, v0 :: vs⟩ w' (as' ++ [s]) ((v0 :: vs).map some ++ [some v])) (h0 : as'[0]? = some (.io t')) :
    Rel K en w' (putS env i t' ++ [s]) (σ ++ [some v]) := by
  obtain ⟨F', R'⟩ := R'
  have hil : i < env.length := by rcases e with e | e <;> exact (List.getElem?_eq_some_iff.mp e).1
  have own : Own K en.w0.H w1 t v0 (F i) := by
    rcases e with e | e
    · obtain ⟨v', z, r⟩ := R.sl i _ _ e hv; cases z; exact r
    · obtain ⟨⟨v', z, r⟩, _⟩ := R.sl i _ _ e hv; cases z; exact r
  have hal : 0 < as'.length := (List.getElem?_eq_some_iff.mp h0).1
  have hlen : as'.length = (v0 :: vs).length := by
    have := R'.len; simp at this; simpa using this
  have new0 : Own K w0.H w' t' v0 (F' 0) := by
    obtain ⟨⟨v', z, r⟩, _⟩ := R'.sl 0 (.io t') (some v0) (by rw [List.getElem?_append_left hal]; exact h0) (by simp)
    cases z; exact r
  have none0 : ∀ p, w0.H p = none → en.w0.H p = none := fun p z => by
    by_cases hp : p ∈ F i
    · exact (own.2.2 p hp).1
    · rw [h2 p hp] at z; exact R.le.h.free z
  have keepB : ∀ p o, ¬ p ∈ F i → w1.H p = some o → w'.H p = some o ∧ (w1.B p = none → w'.B p = none) := fun p o hp z => by
    have z0 : w0.H p = some o := by rw [h2 p hp]; exact z
    refine ⟨R'.le.h p o z0, fun n => ?_⟩
    have := R'.le.f p o z0
    rw [this]
    show w0.B p = none
    rw [hB]; exact n
  have ni : ∀ (k : Nat) p, k ≠ i → k < env.length → p ∈ F k → ¬ p ∈ F i := fun k p hk hkl z z' => hk (R.ap k i p hkl hil z z')
  have fresh : ∀ (k : Nat) p, k ≠ i → k < env.length → p ∈ F k → w0.H p = none → False := fun k p hk hkl z n => by
    obtain ⟨s', o', q1, q2⟩ := slot_at hkl R.len
    obtain ⟨o, ho⟩ := ((R.sl k s' o' q1 q2).fp p z).1
    rw [h2 p (ni k p hk hkl z), ho] at n; cases n
  have res : ∃ fs, SlS K en w' env.length s (some v) fs ∧ (∀ p ∈ fs, w0.H p = none) ∧ ∀ p ∈ fs, p ∈ F' 0 → False := by
    have a := R'.sl as'.length s (some v) (by simp) (by rw [hlen]; simp)
    cases st with
    | val d =>
      obtain ⟨_, v', ev, r⟩ := a; cases ev
      exact ⟨[], ⟨rfl, _, rfl, r⟩, by simp, by simp⟩
    | own o =>
      obtain ⟨v', ev, r⟩ := a; cases ev
      refine ⟨F' as'.length, ⟨_, rfl, r.1, r.2.1, fun p z => ⟨none0 p (r.2.2 p z).1, (r.2.2 p z).2⟩⟩, fun p z => (r.2.2 p z).1, fun p z1 z2 => ?_⟩
      have := R'.ap as'.length 0 p (by simp) (by simp) z1 z2
      omega
  obtain ⟨fs, rs, rn, rd⟩ := res
  have hpl : (putS env i t').length = env.length := by unfold putS; simp
  refine ⟨fun k => if k = env.length then fs else if k = i then F' 0 else F k, ⟨R.le.b.trans sb, fun p o z => ?_, fun p o z => ?_⟩, ?_, ?_, fun k s' o a b => ?_, fun j k p hj hk a b => ?_⟩
  · refine (keepB p o (fun z' => ?_) (R.le.h p o z)).1
    rw [(own.2.2 p z').1] at z; cases z
  · have hp : ¬ p ∈ F i := fun z' => by rw [(own.2.2 p z').1] at z; cases z
    have z0 : w0.H p = some o := by rw [h2 p hp]; exact R.le.h p o z
    rw [R'.le.f p o z0]
    show w0.B p = _
    rw [hB]; exact R.le.f p o z
  · simp [hpl, R.len]
  · have := R.an; simp [hpl]; omega
  · by_cases hk : k = env.length
    · subst hk
      rw [List.getElem?_append_right (by rw [hpl]; exact Nat.le_refl _), hpl] at a
      rw [List.getElem?_append_right (by rw [R.len]; exact Nat.le_refl _), R.len] at b
      simp at a b; subst a b
      simpa using rs
    · have hkl : k < env.length := by
        have := (List.getElem?_eq_some_iff.mp a).1
        simp [hpl] at this; omega
      rw [List.getElem?_append_left (by rw [hpl]; exact hkl)] at a
      rw [List.getElem?_append_left (by rw [← R.len]; exact hkl)] at b
      simp only [hk, if_false]
      by_cases hki : k = i
      · subst hki
        rw [hv] at b; cases b
        simp only [if_true]
        have ow : Own K en.w0.H w' t' v0 (F' 0) := ⟨new0.1, new0.2.1, fun p z => ⟨none0 p (new0.2.2 p z).1, (new0.2.2 p z).2⟩⟩
        rcases e with e | e
        · rw [putS_own e, List.getElem?_set_self hil] at a; cases a
          exact ⟨_, rfl, ow⟩
        · obtain ⟨_, ea⟩ := R.sl k _ _ e hv
          rw [putS_io e, List.getElem?_set_self hil] at a; cases a
          exact ⟨⟨_, rfl, ow⟩, ea⟩
      · simp only [hki, if_false]
        have a' : env[k]? = some s' := by
          rcases e with e | e
          · rw [putS_own e, List.getElem?_set_ne (fun z => hki z.symm)] at a; exact a
          · rw [putS_io e, List.getElem?_set_ne (fun z => hki z.symm)] at a; exact a
        exact (R.sl k s' o a' b).keep sb fun p x z1 z2 => keepB p x (ni k p hki hkl z1) z2
  · have hj' : j ≤ env.length := by simp [hpl] at hj; omega
    have hk' : k ≤ env.length := by simp [hpl] at hk; omega
    by_cases j1 : j = env.length
    · by_cases k1 : k = env.length
      · omega
      · rw [if_pos j1] at a; rw [if_neg k1] at b
        by_cases k2 : k = i
        · rw [if_pos k2] at b; exact (rd p a b).elim
        · rw [if_neg k2] at b; exact (fresh k p k2 (by omega) b (rn p a)).elim
    · rw [if_neg j1] at a
      by_cases k1 : k = env.length
      · rw [if_pos k1] at b
        by_cases j2 : j = i
        · rw [if_pos j2] at a; exact (rd p b a).elim
        · rw [if_neg j2] at a; exact (fresh j p j2 (by omega) a (rn p b)).elim
      · rw [if_neg k1] at b
        by_cases j2 : j = i
        · by_cases k2 : k = i
          · omega
          · rw [if_pos j2] at a; rw [if_neg k2] at b
            exact (fresh k p k2 (by omega) b (new0.2.2 p a).1).elim
        · rw [if_neg j2] at a
          by_cases k2 : k = i
          · rw [if_pos k2] at b; exact (fresh j p j2 (by omega) a (new0.2.2 p b).1).elim
          · rw [if_neg k2] at b; exact R.ap j k p (by omega) (by omega) a b
end
section
variable {K : PySem.W.Frag} {env : List Sl} {P : Sl → Prop} {Pp : Post} {w w' w'' w3 : Wd} {te ta tb tc td ti : TE} {tt : TT} {tA : TA} {en : En} {Pm : Sl → List Sl → Prop}
theorem ev_em (h : EvE K te env fun s => StS s ∧ Pm s env) : EvM K te env Pm := fun en w σ R Q q =>
  h en w σ R _ fun s v w1 e1 p1 r1 => q s v w1 env p1.1 e1.b (R.push e1 r1 p1.1) p1.2
theorem rel_args {i : Nat} {t : OT} {σ : TSt} {v0 : V} {vs : List V} {ds : List D} {w1 : Wd} {F : Nat → List Addr} (R : RelF K en w1 env σ F) (e : env[i]? = some (.own t) ∨ env[i]? = some (.io t)) (hv : σ[i]? = some (some v0)) (rs : DrA K w1.B ds vs) :
    ∃ w0 : Wd, w0.B = w1.B ∧ (∀ p, p ∈ F i → w0.H p = none) ∧ (∀ p, ¬ p ∈ F i → w0.H p = w1.H p) ∧ Rel K ⟨w0, v0 :: vs⟩ w1 (.io t :: ds.map .val) ((v0 :: vs).map some) := by
  have own : Own K en.w0.H w1 t v0 (F i) := by
    rcases e with e | e
    · obtain ⟨v', z, r⟩ := R.sl i _ _ e hv; cases z; exact r
    · obtain ⟨⟨v', z, r⟩, _⟩ := R.sl i _ _ e hv; cases z; exact r
  obtain ⟨w0, hB, h1, h2, hle⟩ := carve_world w1 (F i) fun p z => (own.2.2 p z).2
  refine ⟨w0, hB, h1, h2, fun k => if k = 0 then F i else [], hle, by simp [rs.len], by simp [rs.len], fun k s o a b => ?_, fun j k p _ _ a b => ?_⟩
  · cases k with
    | zero =>
      simp at a b; subst a b
      exact ⟨⟨_, rfl, own.1, own.2.1, fun p z => ⟨h1 p z, (own.2.2 p z).2⟩⟩, rfl⟩
    | succ k =>
      simp only [List.getElem?_cons_succ, List.map_cons] at a b
      rw [if_neg (by omega)]
      rw [List.getElem?_map] at a b
      cases hd : ds[k]? with
      | none => rw [hd] at a; cases a
      | some d =>
        rw [hd] at a; cases a
        obtain ⟨v, hv2, rd⟩ := rs.get hd
        rw [hv2] at b; cases b
        exact ⟨rfl, _, rfl, rd⟩
  · by_cases j0 : j = 0
    · by_cases k0 : k = 0
      · rw [j0, k0]
      · rw [if_neg k0] at b; simp at b
    · rw [if_neg j0] at a; simp at a
theorem dra_sla {ds : List D} {vs : List V} (h : SlA K w w' (ds.map .val) vs) : DrA K w'.B ds vs := by
  induction ds generalizing vs with
  | nil => cases h; exact .nil
  | cons d r ih =>
    cases h with
    | cons a b => exact .cons a (ih b)
/-- o.m(data ..), o the variable i -/
theorem em_meth {i : Nat} {C : Addr} {m : Str} {S : SpM} {E : XK} {xs : List (Str × OT)} (e : env[i]? = some (.own (.ins C xs)) ∨ env[i]? = some (.io (.ins C xs))) (hm : xs.lookup m = none)
    (h : EvA K tA env fun ss => ∃ ds : List D, ss = ds.map .val ∧ S (.io (.ins C xs) :: ds.map .val) fun s as' => ∃ t', as'[0]? = some (.io t') ∧ Pm s (putS env i t')) : EvM K (tMeth C m (spM K S) [] E (tVar i) tA) env Pm := fun en w σ R Q q => by
  have hv : ∃ a dx vs0, σ[i]? = some (some (.ref a)) ∧ w.H a = some (.ins C dx vs0) ∧ vs0.map (·.1) = xs.map (·.1) := by
    obtain ⟨F, R⟩ := R
    have hil : i < env.length := by rcases e with e | e <;> exact (List.getElem?_eq_some_iff.mp e).1
    obtain ⟨s, o, q1, q2⟩ := slot_at hil R.len
    have own : ∃ v0, o = some v0 ∧ Own K en.w0.H w (.ins C xs) v0 (F i) := by
      rcases e with e | e
      · obtain ⟨v', z, r⟩ := R.sl i _ _ e q2; exact ⟨_, z, r⟩
      · obtain ⟨⟨v', z, r⟩, _⟩ := R.sl i _ _ e q2; exact ⟨_, z, r⟩
    obtain ⟨v0, rfl, ow, _⟩ := own
    generalize F i = fp at ow
    cases ow with
    | ins h1 h2 _ => exact ⟨_, _, _, q2, h1, h2⟩
  obtain ⟨a, dx, vs0, hv, ha, ek⟩ := hv
  refine ⟨.ref a, hv, a, dx, vs0, rfl, ha, look_none ek hm, h en w σ R _ fun ss vs w1 e1 p1 r1 => ?_⟩
  obtain ⟨ds, rfl, p⟩ := p1
  rw [List.append_nil]
  obtain ⟨F, R1⟩ := R.grow e1
  obtain ⟨w0, hB, h1, h2, Rc⟩ := rel_args R1 e hv (dra_sla r1)
  refine ⟨⟨w0, .ref a :: vs⟩, w1, .io (.ins C xs) :: ds.map .val, _, rfl, rfl, Rc, p, fun s v w' as' st sb R' z => ?_⟩
  obtain ⟨t', h0, p⟩ := z
  exact q s v w' _ st (e1.b.trans sb) (back_io R1 e hv hB h1 h2 st sb R' h0) p
/-- f(x, data ..), x the variable i -/
theorem em_call {i : Nat} {t : OT} {S : SpM} {E : XK} (e : env[i]? = some (.own t) ∨ env[i]? = some (.io t))
    (h : EvA K tA env fun ss => ∃ ds : List D, ss = ds.map .val ∧ S (.io t :: ds.map .val) fun s as' => ∃ t', as'[0]? = some (.io t') ∧ Pm s (putS env i t')) : EvM K (tCall (spM K S) [] E (tCons (tVar i) tA)) env Pm := fun en w σ R Q q => by
  have hv : ∃ v0, σ[i]? = some (some v0) := by
    obtain ⟨F, R⟩ := R
    have hil : i < env.length := by rcases e with e | e <;> exact (List.getElem?_eq_some_iff.mp e).1
    obtain ⟨s, o, q1, q2⟩ := slot_at hil R.len
    rcases e with e | e
    · obtain ⟨v', z, r⟩ := R.sl i _ _ e q2; exact ⟨_, z ▸ q2⟩
    · obtain ⟨⟨v', z, r⟩, _⟩ := R.sl i _ _ e q2; exact ⟨_, z ▸ q2⟩
  obtain ⟨v0, hv⟩ := hv
  refine ⟨v0, hv, h en w σ R _ fun ss vs w1 e1 p1 r1 => ?_⟩
  obtain ⟨ds, rfl, p⟩ := p1
  obtain ⟨F, R1⟩ := R.grow e1
  obtain ⟨w0, hB, h1, h2, Rc⟩ := rel_args R1 e hv (dra_sla r1)
  show spM K S (v0 :: vs ++ []) w1.H Q E
  rw [List.append_nil]
  refine ⟨⟨w0, v0 :: vs⟩, w1, .io t :: ds.map .val, _, rfl, rfl, Rc, p, fun s v w' as' st sb R' z => ?_⟩
  obtain ⟨t', h0, p⟩ := z
  exact q s v w' _ st (e1.b.trans sb) (back_io R1 e hv hB h1 h2 st sb R' h0) p
/-- the result behind the slots into a slot -/
theorem Rel.pop {j : Nat} {s : Sl} {v : V} {σ : TSt} (st : StS s) (R : Rel K en w (env ++ [s]) (σ ++ [some v])) (hl : en.args.length ≤ env.length) : Rel K en w (env.set j s) (σ.set j (some v)) ∧ Rel K en w env σ := by
  obtain ⟨F, R⟩ := R
  have hlen : env.length = σ.length := by have := R.len; simp at this; exact this
  have R0 : RelF K en w env σ F := ⟨R.le, hlen, hl, fun k s' o a b => R.sl k s' o (by rw [List.getElem?_append_left (List.getElem?_eq_some_iff.mp a).1]; exact a) (by rw [List.getElem?_append_left (List.getElem?_eq_some_iff.mp b).1]; exact b), fun a b p h1 h2 => R.ap a b p (by simp; omega) (by simp; omega)⟩
  refine ⟨?_, _, R0⟩
  have hs := R.sl env.length s (some v) (by simp) (by rw [hlen]; simp)
  refine ⟨_, R0.upd (fp := F env.length) R.le (fun _ _ _ _ _ z => z) ?_ fun k p hk hkl z1 z2 => ?_⟩
  · cases st with
    | val d => exact hs
    | own o => exact hs
  · have := R.ap env.length k p (by simp) (by simp; omega) z1 z2
    omega
theorem putS_len {i : Nat} {t : OT} : (putS env i t).length = env.length := by unfold putS; simp
theorem wp_asgM {i : Nat} (h : EvM K te env fun s env' => env'.length = env.length ∧ Pp.nx (env'.set i s)) : Wp K (tAsg te (gName i)) env Pp := fun en w σ R D hn _ _ _ =>
  h en w σ R _ fun s v w1 env' st sb R1 p => hn w1 _ _ sb (Rel.pop st R1 (by rw [p.1]; exact R.an)).1 p.2
theorem wp_dropM (h : EvM K te env fun _ env' => env'.length = env.length ∧ Pp.nx env') : Wp K (tDrop te) env Pp := fun en w σ R D hn _ _ _ =>
  h en w σ R _ fun s v w1 env' st sb R1 p => hn w1 _ _ sb (Rel.pop (j := 0) st R1 (by rw [p.1]; exact R.an)).2 p.2
end
end DL

set_option Elab.async false
set_option linter.all false
set_option maxRecDepth 100000
set_option autoImplicit false
namespace DL
open PySem L2
section
variable {K : PySem.W.Frag} {B H : Hp} {κ : Type} [DecidableEq κ]
theorem map_ok {d : D} {y : V} {k : κ} (hd : Dr K B d y) {xs : List (κ × OT)} : ∀ {vs : List (κ × V)} {fp : List Addr}, vs.map (·.1) = xs.map (·.1) → TRs K B H (xs.map (·.2)) (vs.map (·.2)) fp →
    ∃ fp', fp'.Sublist fp ∧ TRs K B H ((xs.map fun kv => if kv.1 = k then (kv.1, OT.imm d) else kv).map (·.2)) ((vs.map fun kv => if kv.1 = k then (kv.1, y) else kv).map (·.2)) fp' := by
  induction xs with
  | nil =>
    intro vs fp e r
    cases vs with
    | nil => exact ⟨fp, List.Sublist.refl _, r⟩
    | cons _ _ => cases e
  | cons p r ih =>
    intro vs fp e hr
    cases vs with
    | nil => cases e
    | cons q s =>
      simp only [List.map_cons, List.cons.injEq] at e hr ⊢
      cases hr with
      | @cons _ _ f1 f2 _ _ h1 h2 =>
        obtain ⟨fp', a, b⟩ := ih e.2 h2
        by_cases hk : p.1 = k
        · refine ⟨[] ++ fp', ?_, ?_⟩
          · exact List.Sublist.append (List.nil_sublist _) a
          · rw [if_pos hk, if_pos (e.1.trans hk)]; exact .cons (.imm hd) b
        · refine ⟨f1 ++ fp', List.Sublist.append (List.Sublist.refl _) a, ?_⟩
          rw [if_neg hk, if_neg (fun z => hk (e.1.symm.trans z))]; exact .cons h1 b
theorem put_ok {d : D} {y : V} {k : κ} (hd : Dr K B d y) {xs : List (κ × OT)} {vs : List (κ × V)} {fp : List Addr} (e : vs.map (·.1) = xs.map (·.1)) (r : TRs K B H (xs.map (·.2)) (vs.map (·.2)) fp) :
    (putK vs k y).map (·.1) = (putO xs k (.imm d)).map (·.1) ∧ ∃ fp', fp'.Sublist fp ∧ TRs K B H ((putO xs k (.imm d)).map (·.2)) ((putK vs k y).map (·.2)) fp' := by
  unfold putK putO
  have ha : (vs.any fun kv => decide (kv.1 = k)) = (getO xs k).isSome := (valV_any k vs).trans (dget_some e)
  rw [ha]
  by_cases h : (getO xs k).isSome = true
  · rw [if_pos h, if_pos h]
    refine ⟨?_, map_ok hd e r⟩
    rw [List.map_map, List.map_map]
    have h1 : ∀ {α : Type} (l : List (κ × α)) (x : α), l.map ((·.1) ∘ fun kv => if kv.1 = k then (kv.1, x) else kv) = l.map (·.1) := fun l x => List.map_congr_left fun z _ => by
      simp only [Function.comp]; split <;> rfl
    rw [h1, h1]; exact e
  · rw [if_neg h, if_neg h]
    refine ⟨by simp [e], fp ++ ([] ++ []), by simp, ?_⟩
    rw [List.map_append, List.map_append]
    exact r.append (.cons (.imm hd) .nil)
end
section
variable {K : PySem.W.Frag} {env : List Sl} {P : Sl → Prop} {Pp : Post} {w w' w'' w3 : Wd} {te ta tb tc td ti : TE} {tA : TA} {en : En}
/-- d[k] = data -/
theorem wp_dputD (h : EvE K te env fun s => ∃ d, Frz s d ∧ EvN K td env fun i s f => ∃ xs, s = .dK xs ∧ EvE K ti env fun s2 => ∃ k, s2 = .val (keyD k) ∧ xs.length < 1000000 ∧ Pp.nx (putS env i (f (.dK (putO xs k (.imm d)))))) :
    Wp K (tAsg te (gSub td ti rSetD)) env Pp := fun en w σ R D hn _ _ _ =>
  ev_frz (P := fun s => ∃ d, s = .val d ∧ EvN K td env fun i s f => ∃ xs, s = .dK xs ∧ EvE K ti env fun s2 => ∃ k, s2 = .val (keyD k) ∧ xs.length < 1000000 ∧ Pp.nx (putS env i (f (.dK (putO xs k (.imm d)))))) (h.imp fun s2 ⟨d, fz, z⟩ => ⟨d, fz, d, rfl, z⟩) en w σ R _ fun s y w1 e1 p1 r1 => by
    obtain ⟨d, rfl, p⟩ := p1
    exact p en w1 σ (R.grow e1) _ fun i t s f vr u w2 e2 et hv a p => by
      obtain ⟨xs, rfl, p⟩ := p
      exact p en w2 σ (R.grow (e1.trans e2)) _ fun s3 y3 w3 e3 p3 r3 => by
        obtain ⟨k, rfl, hl, p⟩ := p3
        have := keyD_v r3
        subst this
        have a3 := a.mono e3.h
        have R3 := R.grow ((e1.trans e2).trans e3)
        obtain ⟨fs, ts⟩ := R3.nodeTR et hv a3
        have rd : Dr K w3.B d y := Dr.mono (e2.trans e3).b r1
        cases ts with
        | @dK pp _ vs fp hp ek rs =>
          have hlv : vs.length = xs.length := by simpa using congrArg List.length ek
          refine ⟨pp, _, rfl, .inl ⟨vs, k, hp, rfl, Nat.lt_of_lt_of_le (by rw [hlv]; exact hl) (by decide), rfl⟩, ?_⟩
          obtain ⟨w4, h4, b4, R4⟩ := R3.write (s' := .dK (putO xs k (.imm d))) (o := .dK vs) (o' := .dK (putK vs k y)) et hv a3 (fun fs ts nd no => by
            cases ts with
            | @dK _ _ vs' fp' hp' ek' rs' =>
              rw [hp] at hp'; cases hp'
              refine ⟨by simp, fun H' q1 q2 => ?_⟩
              have nd' := List.nodup_cons.mp nd
              have rs2 := rs'.mono (H' := H') (Same.refl _) fun q o z1 z2 => q2 q o (fun e => by subst e; exact nd'.1 z1) z2
              obtain ⟨k1, fp2, sb, t2⟩ := put_ok (k := k) rd ek' rs2
              exact ⟨pp :: fp2, .dK q1 k1 t2, List.nodup_cons.mpr ⟨fun z => nd'.1 (sb.subset z), sb.nodup nd'.2⟩, fun q z => by
                have : q ∈ pp :: fp' := by
                  rcases List.mem_cons.mp z with z | z
                  · simp [z]
                  · simp [sb.subset z]
                exact ⟨(no q this).1, (no q this).2, .inl this⟩⟩)
          rw [← h4]
          exact hn w4 σ _ (((e1.trans e2).trans e3).b.trans b4) R4 p
/-- while: Inv's number falls -/
theorem wp_while {tt : TT} {tb : TS} (Inv : Nat → List Sl → Prop) (m : Nat) (h0 : Inv m env)
    (hs : ∀ m env', Inv m env' → EvT K tt env' fun b => (b = true → Wp K tb env' (Post.loop Pp fun e => ∃ m', m' < m ∧ Inv m' e)) ∧ (b = false → Pp.nx env')) :
    Wp K (tWhile tt tb) env Pp := fun en w σ R D hn hb hc hr => by
  refine ⟨fun m σ' H' => ∃ w' env', w'.H = H' ∧ Same w.B w'.B ∧ Rel K en w' env' σ' ∧ Inv m env', ⟨m, w, env, rfl, Same.refl _, R, h0⟩, ?_⟩
  rintro m σ' _ ⟨w', env', rfl, sb, R', i⟩
  refine hs m env' i en w' σ' R' _ fun b w1 e1 p => ?_
  have sb1 := sb.trans e1.b
  cases b with
  | false =>
    rw [if_neg (by decide)]
    exact hn w1 σ' env' sb1 (R'.grow e1) (p.2 rfl)
  | true =>
    rw [if_pos rfl]
    refine ⟨fun σ2 H2 => ∃ w2 env2, w2.H = H2 ∧ Same w.B w2.B ∧ Rel K en w2 env2 σ2 ∧ ∃ m', m' < m ∧ Inv m' env2, fun σ2 H2 ⟨w2, env2, a, b, c, m', d, e⟩ => ⟨m', d, w2, env2, a, b, c, e⟩, ?_⟩
    exact p.1 rfl en w1 σ' (R'.grow e1) _ (fun w2 σ2 e2 s2 R2 n => ⟨w2, e2, rfl, sb1.trans s2, R2, n⟩) (fun w2 σ2 e2 s2 R2 n => hn w2 σ2 e2 (sb1.trans s2) R2 n)
      (fun w2 σ2 e2 s2 R2 n => ⟨w2, e2, rfl, sb1.trans s2, R2, n⟩) (hr.back sb1)
/-- d.get(k, e) -/
theorem ev_dget2 {tx : TE} {P : Sl → Prop} (h : EvE K td env fun s => ∃ xs, TdS s xs ∧ EvE K ti env fun s2 => ∃ k, s2 = .val (keyD k) ∧ EvE K tx env fun s3 => (∀ c, getO xs k = some c → P (chS c)) ∧ (getO xs k = none → P s3)) : EvE K (tDGet2 td ti tx) env P := fun en w σ R Q q =>
  h en w σ R _ fun s v w1 e1 p1 r1 => by
    obtain ⟨xs, l, p⟩ := p1
    obtain ⟨a, vs, fp, rfl, h1, h2, h3⟩ := l.tr r1
    refine ⟨a, rfl, .inl ⟨vs, h1⟩, p en w1 σ (R.grow e1) _ fun s2 y w2 e2 p2 r2 => ?_⟩
    obtain ⟨k, rfl, p⟩ := p2
    have := keyD_v r2
    subst this
    refine p en w2 σ (R.grow (e1.trans e2)) _ fun s3 z w3 e3 p3 r3 => ?_
    have h1' : Rd w3.H a (.dK vs) := h1.elim (fun z => .inl ((e2.trans e3).h _ _ z)) fun ⟨o, z⟩ => .inr ⟨o, (e2.trans e3).h _ _ z⟩
    refine ⟨valV vs k, .inl ⟨vs, k, h1', rfl, rfl⟩, ?_⟩
    cases hg : getO xs k with
    | some c =>
      have h3' := h3.mono (H' := w3.H) (e2.trans e3).b fun q o _ z => (e2.trans e3).h q o z
      obtain ⟨u, fs, j, e, t, _, _⟩ := dget_ok h2 h3' hg
      rw [e]
      exact q _ _ w3 ((e1.trans e2).trans e3) (p3.1 c hg) (chS_ok t)
    | none =>
      have hn := dget_some (k := k) h2
      rw [hg] at hn
      have : valV vs k = none := by simpa using hn
      rw [this]
      exact q _ _ w3 ((e1.trans e2).trans e3) (p3.2 hg) (r3.back (e1.trans e2))
/-! ### forms for the macros: fields -/
theorem x_fldI {f : Str} {P : Sl → Prop} (h : EvE K te env fun s => ∃ C xs, TiS s C xs ∧ Cls K C ∧ NoAttr K C f ∧ ∃ d, xs.lookup f = some (.imm d) ∧ P (.val d)) : EvE K (tFld K te f) env P :=
  ev_fldT (h.imp fun _ ⟨C, xs, a, b, c, d, e, p⟩ => ⟨C, xs, a, b, c, _, e, p⟩)
theorem x_fldL {f : Str} {P : Sl → Prop} (h : EvE K te env fun s => ∃ C xs, TiS s C xs ∧ Cls K C ∧ NoAttr K C f ∧ ∃ ys, xs.lookup f = some (.lst ys) ∧ P (.brt (.lst ys))) : EvE K (tFld K te f) env P :=
  ev_fldT (h.imp fun _ ⟨C, xs, a, b, c, d, e, p⟩ => ⟨C, xs, a, b, c, _, e, p⟩)
theorem x_fldO {f : Str} {P : Sl → Prop} (h : EvE K te env fun s => ∃ C xs, TiS s C xs ∧ Cls K C ∧ NoAttr K C f ∧ ∃ ds, xs.lookup f = some (oL ds) ∧ P (.brt (oL ds))) : EvE K (tFld K te f) env P :=
  ev_fldT (h.imp fun _ ⟨C, xs, a, b, c, d, e, p⟩ => ⟨C, xs, a, b, c, _, e, p⟩)
theorem x_fldD {f : Str} {P : Sl → Prop} (h : EvE K te env fun s => ∃ C xs, TiS s C xs ∧ Cls K C ∧ NoAttr K C f ∧ ∃ ys, xs.lookup f = some (.dK ys) ∧ P (.brt (.dK ys))) : EvE K (tFld K te f) env P :=
  ev_fldT (h.imp fun _ ⟨C, xs, a, b, c, d, e, p⟩ => ⟨C, xs, a, b, c, _, e, p⟩)
theorem ra_lenTl {s : Sl} {xs : List OT} {P : Sl → Prop} (l : TlS s xs) (p : P (.val (.int xs.length))) : RaP K (rLenG K) [s] P := fun w wx vs _ r Q q => by
  cases r with
  | cons r t =>
    cases t
    rename_i v0
    have : ∃ f', TR K wx.B wx.H (.lst xs) v0 f' := by
      cases l with
      | brt => exact r
      | own => obtain ⟨f, r, _⟩ := r; exact ⟨f, r⟩
    obtain ⟨f', r⟩ := this
    cases r with
    | @lst pp _ vs fp hp rs => exact ⟨_, _, rfl, .inl ⟨vs, .inl (.inl hp), rfl⟩, (by rw [← rs.len]; exact q _ _ wx wx.rfl' p (.int _))⟩
theorem x_lenTl {s : Sl} {P : Sl → Prop} (h : ∃ xs, TlS s xs ∧ P (.val (.int xs.length))) : RaP K (rLenG K) [s] P := let ⟨_, a, b⟩ := h; ra_lenTl a b
/-- xs.append(e), e a tree of one's own made by e -/
theorem wp_appO {tr : TE} (h : EvN K tr env fun i s f => ∃ xs, s = .lst xs ∧ xs.length < 1000000 ∧ EvE K te env fun s2 => ∃ t, s2 = .own t ∧ Pp.nx (putS env i (f (.lst (xs ++ [t]))))) :
    Wp K (tDrop (tBM K "list" rAppend tr (tCons te tNil))) env Pp := fun en w σ R D hn _ _ _ =>
  h en w σ R _ fun i t s f vr u w1 e1 et hv a p => by
    obtain ⟨xs, rfl, hl, p⟩ := p
    have R1 := R.grow e1
    obtain ⟨fs, ts⟩ := R1.nodeTR et hv a
    cases ts with
    | @lst pp _ vs fp hp rs =>
      refine ⟨.inl ⟨rfl, _, .inl (.inl hp)⟩, ?_⟩
      exact p en w1 σ R1 _ fun s2 y w2 e2 p2 r2 => by
        obtain ⟨tn, rfl, p⟩ := p2
        obtain ⟨fn, on⟩ := r2
        have a2 := a.mono e2.h
        have hp2 := e2.h _ _ hp
        refine ⟨pp, vs, y, rfl, rfl, hp2, Nat.lt_of_lt_of_le (by rw [← rs.len]; exact hl) (by decide), ?_⟩
        obtain ⟨w3, h3, b3, R3⟩ := R1.write2 (s' := .lst (xs ++ [tn])) (o' := .lst (vs ++ [y])) e2 et hv a2 (fun fs ts nd no => by
          cases ts with
          | @lst _ _ vs' fp' hp' rs' =>
            rw [hp] at hp'; cases hp'
            have npp : pp ∉ fn := fun z => by rw [(on.2.2 pp z).1] at hp; cases hp
            have nd' := List.nodup_cons.mp nd
            refine ⟨by simp, fun H' q1 q2 => ⟨pp :: (fp' ++ (fn ++ [])), .lst q1 ((rs'.mono (H' := H') e2.b fun q o z1 z2 => q2 q o (fun e => by subst e; exact nd'.1 z1) (e2.h _ _ z2)).append (.cons (on.1.mono (H' := H') (Same.refl _) fun q o z1 z2 => q2 q o (fun e => by subst e; exact npp z1) z2) .nil)), ?_, fun q z => ?_⟩⟩
            · rw [List.append_nil]
              refine List.nodup_cons.mpr ⟨fun z => ?_, List.nodup_append.mpr ⟨nd'.2, on.2.1, fun x z1 y z2 e => ?_⟩⟩
              · rcases List.mem_append.mp z with z | z
                · exact nd'.1 z
                · exact npp z
              · subst e
                obtain ⟨o, ho⟩ := rs'.there x z1
                rw [(on.2.2 x z2).1] at ho; cases ho
            · rw [List.append_nil] at z
              have : q ∈ pp :: fp' ∨ q ∈ fn := by
                rcases List.mem_cons.mp z with z | z
                · exact .inl (by simp [z])
                · rcases List.mem_append.mp z with z | z
                  · exact .inl (by simp [z])
                  · exact .inr z
              rcases this with z | z
              · exact ⟨(no q z).1, (no q z).2, .inl z⟩
              · exact ⟨R1.le.h.free (on.2.2 q z).1, (on.2.2 q z).2, .inr (on.2.2 q z).1⟩)
        rw [← h3]
        exact hn w3 σ _ ((e1.trans e2).b.trans b3) R3 p
end
end DL

set_option Elab.async false
set_option linter.all false
set_option maxRecDepth 100000
set_option autoImplicit false
namespace DL
open PySem L2
/-! ### calls that change several trees of the frame -/
def putM (env : List Sl) : List (Nat × OT) → List Sl
  | [] => env
  | (i, t) :: r => putM (putS env i t) r
section
variable {K : PySem.W.Frag} {env : List Sl} {w w' w'' w3 : Wd} {te ta tb tc td ti : TE} {tA : TA} {en : En} {Pm : Sl → List Sl → Prop}
theorem putM_len : ∀ (ps : List (Nat × OT)) (env : List Sl), (putM env ps).length = env.length
  | [], _ => rfl
  | (i, t) :: r, env => by rw [putM, putM_len r, putS_len]
theorem putS_ne {i k : Nat} {t : OT} (h : k ≠ i) : (putS env i t)[k]? = env[k]? := by
  unfold putS; rw [List.getElem?_set_ne (fun z => h z.symm)]
theorem putM_ne : ∀ (ps : List (Nat × OT)) (env : List Sl) (k : Nat), ¬ k ∈ ps.map (·.1) → (putM env ps)[k]? = env[k]?
  | [], _, _, _ => rfl
  | (i, t) :: r, env, k, h => by
    simp only [List.map_cons, List.mem_cons, not_or] at h
    rw [putM, putM_ne r _ k h.2, putS_ne h.1]
/-- own stays own, io stays io -/
def likeS (t' : OT) : Sl → Sl
  | .io _ => .io t'
  | _ => .own t'
theorem putM_at : ∀ (ps : List (Nat × OT)) (env : List Sl) (m i : Nat) (t' : OT) (t : OT), (ps.map (·.1)).Nodup → ps[m]? = some (i, t') → (env[i]? = some (.own t) ∨ env[i]? = some (.io t)) →
    (env[i]? = some (.own t) → (putM env ps)[i]? = some (.own t')) ∧ (env[i]? = some (.io t) → (putM env ps)[i]? = some (.io t'))
  | [], _, m, _, _, _, _, h, _ => by simp at h
  | (j, u) :: r, env, 0, i, t', t, nd, h, e => by
    simp at h; obtain ⟨rfl, rfl⟩ := h
    simp only [List.map_cons, List.nodup_cons] at nd
    have hil : j < env.length := by rcases e with e | e <;> exact (List.getElem?_eq_some_iff.mp e).1
    refine ⟨fun e => ?_, fun e => ?_⟩
    · rw [putM, putM_ne r _ _ nd.1, putS_own e, List.getElem?_set_self hil]
    · rw [putM, putM_ne r _ _ nd.1, putS_io e, List.getElem?_set_self hil]
  | (j, u) :: r, env, m + 1, i, t', t, nd, h, e => by
    simp at h
    simp only [List.map_cons, List.nodup_cons] at nd
    have hij : i ≠ j := fun z => nd.1 (List.mem_map.mpr ⟨(i, t'), List.mem_of_getElem? h, z⟩)
    have := putM_at r (putS env j u) m i t' t nd.2 h (by rw [putS_ne hij]; exact e)
    rw [putS_ne hij] at this
    exact this
end
section
variable {K : PySem.W.Frag} {env : List Sl} {w w' w'' w3 : Wd} {te ta tb tc td ti : TE} {tA : TA} {en : En} {Pm : Sl → List Sl → Prop}
/-- the slots `is` hold the trees ts, their values vs0 -/
structure IoAt (env : List Sl) (σ : TSt) (is : List Nat) (ts : List OT) (vs0 : List V) : Prop where
  nd : is.Nodup
  lt : ts.length = is.length
  lv : vs0.length = is.length
  at_ : ∀ (m i : Nat) (t : OT) (v : V), is[m]? = some i → ts[m]? = some t → vs0[m]? = some v → (env[i]? = some (.own t) ∨ env[i]? = some (.io t)) ∧ σ[i]? = some (some v)
theorem IoAt.get {σ : TSt} {is : List Nat} {ts : List OT} {vs0 : List V} (I : IoAt env σ is ts vs0) {m i : Nat} (h : is[m]? = some i) : ∃ t v, ts[m]? = some t ∧ vs0[m]? = some v ∧ (env[i]? = some (.own t) ∨ env[i]? = some (.io t)) ∧ σ[i]? = some (some v) := by
  have hm := (List.getElem?_eq_some_iff.mp h).1
  have h1 := List.getElem?_eq_getElem (l := ts) (i := m) (by rw [I.lt]; exact hm)
  have h2 := List.getElem?_eq_getElem (l := vs0) (i := m) (by rw [I.lv]; exact hm)
  exact ⟨_, _, h1, h2, I.at_ _ _ _ _ h h1 h2⟩
theorem own_of {i : Nat} {t : OT} {v : V} {σ : TSt} {F : Nat → List Addr} {w1 : Wd} (R : RelF K en w1 env σ F) (e : env[i]? = some (.own t) ∨ env[i]? = some (.io t)) (hv : σ[i]? = some (some v)) : Own K en.w0.H w1 t v (F i) := by
  rcases e with e | e
  · obtain ⟨v', z, r⟩ := R.sl i _ _ e hv; cases z; exact r
  · obtain ⟨⟨v', z, r⟩, _⟩ := R.sl i _ _ e hv; cases z; exact r
theorem rel_argsN {is : List Nat} {ts : List OT} {vs0 : List V} {σ : TSt} {vs : List V} {ds : List D} {w1 : Wd} {F : Nat → List Addr} (R : RelF K en w1 env σ F) (I : IoAt env σ is ts vs0) (rs : DrA K w1.B ds vs) :
    ∃ w0 : Wd, w0.B = w1.B ∧ (∀ p, p ∈ is.flatMap F → w0.H p = none) ∧ (∀ p, ¬ p ∈ is.flatMap F → w0.H p = w1.H p) ∧ Rel K ⟨w0, vs0 ++ vs⟩ w1 (ts.map .io ++ ds.map .val) ((vs0 ++ vs).map some) := by
  have own : ∀ i ∈ is, ∃ t v, Own K en.w0.H w1 t v (F i) := fun i hi => by
    obtain ⟨m, hm⟩ := List.getElem?_of_mem hi
    obtain ⟨t, v, _, _, e, hv⟩ := I.get hm
    exact ⟨t, v, own_of R e hv⟩
  obtain ⟨w0, hB, h1, h2, hle⟩ := carve_world w1 (is.flatMap F) fun p z => by
    obtain ⟨i, hi, hp⟩ := List.mem_flatMap.mp z
    obtain ⟨t, v, o⟩ := own i hi
    exact (o.2.2 p hp).2
  refine ⟨w0, hB, h1, h2, fun k => match is[k]? with | some i => F i | none => [], hle, by simp [rs.len, I.lt, I.lv], by simp [rs.len, I.lt, I.lv], fun k s o a b => ?_, fun j k p _ _ a b => ?_⟩
  · cases hk : is[k]? with
    | some i =>
      obtain ⟨t, v, e1, e2, e3, e4⟩ := I.get hk
      have ow := own_of R e3 e4
      rw [List.getElem?_append_left (by simp; exact (List.getElem?_eq_some_iff.mp e1).1), List.getElem?_map, e1] at a
      cases a
      have hb : ((vs0 ++ vs).map some)[k]? = some (some v) := by
        rw [List.getElem?_map, List.getElem?_append_left (List.getElem?_eq_some_iff.mp e2).1, e2]; rfl
      rw [hb] at b; cases b
      refine ⟨⟨_, rfl, ow.1, ow.2.1, fun p z => ⟨h1 p (List.mem_flatMap.mpr ⟨i, List.mem_of_getElem? hk, z⟩), (ow.2.2 p z).2⟩⟩, ?_⟩
      show (vs0 ++ vs)[k]? = some v
      rw [List.getElem?_append_left (List.getElem?_eq_some_iff.mp e2).1, e2]
    | none =>
      have hk' : is.length ≤ k := List.getElem?_eq_none_iff.mp hk
      rw [List.getElem?_append_right (by simp [I.lt]; exact hk')] at a
      rw [List.getElem?_map, List.getElem?_append_right (by rw [I.lv]; exact hk')] at b
      simp only [List.length_map, I.lt, List.getElem?_map] at a
      rw [I.lv] at b
      cases hd : ds[k - is.length]? with
      | none => rw [hd] at a; cases a
      | some d =>
        rw [hd] at a; cases a
        obtain ⟨v, hv2, rd⟩ := rs.get hd
        rw [hv2] at b; cases b
        exact ⟨rfl, _, rfl, rd⟩
  · cases hj : is[j]? with
    | none => simp [hj] at a
    | some i =>
      cases hk : is[k]? with
      | none => simp [hk] at b
      | some i2 =>
        simp only [hj] at a; simp only [hk] at b
        have hi : i < env.length := by
          obtain ⟨_, _, _, _, e, _⟩ := I.get hj
          rcases e with e | e <;> exact (List.getElem?_eq_some_iff.mp e).1
        have hi2 : i2 < env.length := by
          obtain ⟨_, _, _, _, e, _⟩ := I.get hk
          rcases e with e | e <;> exact (List.getElem?_eq_some_iff.mp e).1
        have := R.ap i i2 p hi hi2 a b
        subst this
        exact (List.getElem?_inj (List.getElem?_eq_some_iff.mp hj).1 I.nd).mp (hj.trans hk.symm)
end
section
variable {K : PySem.W.Frag} {env : List Sl} {w w' w'' w3 : Wd} {te ta tb tc td ti : TE} {tA : TA} {en : En} {Pm : Sl → List Sl → Prop}
theorem idx_at {is : List Nat} {k : Nat} (h : k ∈ is) : is[is.idxOf k]? = some k := by
  have h1 := List.idxOf_lt_length_of_mem h
  rw [List.getElem?_eq_getElem h1, List.getElem_idxOf h1]
theorem back_ioN {is : List Nat} {ts ts' : List OT} {vs0 vs : List V} {s : Sl} {v : V} {as' : List Sl} {σ : TSt} {F : Nat → List Addr} {w0 w1 : Wd} (R : RelF K en w1 env σ F) (I : IoAt env σ is ts vs0)
    (hB : w0.B = w1.B) (h1 : ∀ p, p ∈ is.flatMap F → w0.H p = none) (h2 : ∀ p, ¬ p ∈ is.flatMap F → w0.H p = w1.H p)
    (st : StS s) (sb : Same w1.B w'.B) (R' : Rel K ⟨w0, vs0 ++ vs⟩ w' (as' ++ [s]) ((vs0 ++ vs).map some ++ [some v])) (lt' : ts'.length = is.length) (h0 : ∀ (m : Nat) t', ts'[m]? = some t' → as'[m]? = some (.io t')) :
    Rel K en w' (putM env (is.zip ts') ++ [s]) (σ ++ [some v]) := by
  obtain ⟨F', R'⟩ := R'
  have own : ∀ i ∈ is, ∃ t v, Own K en.w0.H w1 t v (F i) := fun i hi => by
    obtain ⟨t, v, _, _, e, hv⟩ := I.get (idx_at hi)
    exact ⟨t, v, own_of R e hv⟩
  have isl : ∀ i ∈ is, i < env.length := fun i hi => by
    obtain ⟨t, v, _, _, e, hv⟩ := I.get (idx_at hi)
    rcases e with e | e <;> exact (List.getElem?_eq_some_iff.mp e).1
  have hlen : as'.length = (vs0 ++ vs).length := by
    have := R'.len; simp at this; simp; omega
  have new0 : ∀ (m i : Nat), is[m]? = some i → ∃ t' v0, ts'[m]? = some t' ∧ vs0[m]? = some v0 ∧ Own K w0.H w' t' v0 (F' m) := fun m i hm => by
    obtain ⟨t, v0, e1, e2, _, _⟩ := I.get hm
    have hml := (List.getElem?_eq_some_iff.mp hm).1
    have e3 := List.getElem?_eq_getElem (l := ts') (i := m) (by rw [lt']; exact hml)
    have e4 := h0 m _ e3
    have hv : ((vs0 ++ vs).map some ++ [some v])[m]? = some (some v0) := by
      rw [List.getElem?_append_left (by have := (List.getElem?_eq_some_iff.mp e2).1; simp; omega), List.getElem?_map, List.getElem?_append_left (List.getElem?_eq_some_iff.mp e2).1, e2]; rfl
    obtain ⟨⟨v', z, r⟩, _⟩ := R'.sl m _ (some v0) (by rw [List.getElem?_append_left (List.getElem?_eq_some_iff.mp e4).1]; exact e4) hv
    cases z
    exact ⟨_, _, e3, e2, r⟩
  have none0 : ∀ p, w0.H p = none → en.w0.H p = none := fun p z => by
    by_cases hp : p ∈ is.flatMap F
    · obtain ⟨i, hi, hp⟩ := List.mem_flatMap.mp hp
      obtain ⟨_, _, o⟩ := own i hi
      exact (o.2.2 p hp).1
    · rw [h2 p hp] at z; exact R.le.h.free z
  have ent : ∀ p o, en.w0.H p = some o → ¬ p ∈ is.flatMap F := fun p o z hp => by
    obtain ⟨i, hi, hp⟩ := List.mem_flatMap.mp hp
    obtain ⟨_, _, ow⟩ := own i hi
    rw [(ow.2.2 p hp).1] at z; cases z
  have keepB : ∀ p o, ¬ p ∈ is.flatMap F → w1.H p = some o → w'.H p = some o ∧ (w1.B p = none → w'.B p = none) := fun p o hp z => by
    have z0 : w0.H p = some o := by rw [h2 p hp]; exact z
    refine ⟨R'.le.h p o z0, fun n => ?_⟩
    have := R'.le.f p o z0
    rw [this]
    show w0.B p = none
    rw [hB]; exact n
  have ni : ∀ (k : Nat) p, ¬ k ∈ is → k < env.length → p ∈ F k → ¬ p ∈ is.flatMap F := fun k p hk hkl z z' => by
    obtain ⟨i, hi, hp⟩ := List.mem_flatMap.mp z'
    have := R.ap k i p hkl (isl i hi) z hp
    exact hk (this ▸ hi)
  have fresh : ∀ (k : Nat) p, ¬ k ∈ is → k < env.length → p ∈ F k → w0.H p = none → False := fun k p hk hkl z n => by
    obtain ⟨s', o', q1, q2⟩ := slot_at hkl R.len
    obtain ⟨o, ho⟩ := ((R.sl k s' o' q1 q2).fp p z).1
    rw [h2 p (ni k p hk hkl z), ho] at n; cases n
  have fr : ∀ i ∈ is, ∀ p ∈ F' (is.idxOf i), w0.H p = none := fun i hi p z => by
    obtain ⟨_, _, _, _, o⟩ := new0 _ _ (idx_at hi)
    exact (o.2.2 p z).1
  have il : ∀ i ∈ is, is.idxOf i < as'.length := fun i hi => by
    have := List.idxOf_lt_length_of_mem hi
    rw [hlen]; simp [I.lv]; omega
  have res : ∃ fs, SlS K en w' env.length s (some v) fs ∧ (∀ p ∈ fs, w0.H p = none) ∧ ∀ i ∈ is, ∀ p ∈ fs, p ∈ F' (is.idxOf i) → False := by
    have a := R'.sl as'.length s (some v) (by simp) (by rw [hlen]; simp)
    cases st with
    | val d =>
      obtain ⟨_, v', ev, r⟩ := a; cases ev
      exact ⟨[], ⟨rfl, _, rfl, r⟩, by simp, by simp⟩
    | own o =>
      obtain ⟨v', ev, r⟩ := a; cases ev
      refine ⟨F' as'.length, ⟨_, rfl, r.1, r.2.1, fun p z => ⟨none0 p (r.2.2 p z).1, (r.2.2 p z).2⟩⟩, fun p z => (r.2.2 p z).1, fun i hi p z1 z2 => ?_⟩
      have h3 := il i hi
      have := R'.ap as'.length (is.idxOf i) p (by simp) (by simp; omega) z1 z2
      omega
  obtain ⟨fs, rs, rn, rd⟩ := res
  have hpl : (putM env (is.zip ts')).length = env.length := putM_len _ _
  have hz : (is.zip ts').map (·.1) = is := List.map_fst_zip (by omega)
  refine ⟨fun k => if k = env.length then fs else if k ∈ is then F' (is.idxOf k) else F k, ⟨R.le.b.trans sb, fun p o z => ?_, fun p o z => ?_⟩, ?_, ?_, fun k s' o a b => ?_, fun j k p hj hk a b => ?_⟩
  · exact (keepB p o (ent p o z) (R.le.h p o z)).1
  · have z0 : w0.H p = some o := by rw [h2 p (ent p o z)]; exact R.le.h p o z
    rw [R'.le.f p o z0]
    show w0.B p = _
    rw [hB]; exact R.le.f p o z
  · simp [hpl, R.len]
  · have := R.an; simp [hpl]; omega
  · by_cases hk : k = env.length
    · subst hk
      rw [List.getElem?_append_right (by rw [hpl]; exact Nat.le_refl _), hpl] at a
      rw [List.getElem?_append_right (by rw [R.len]; exact Nat.le_refl _), R.len] at b
      simp at a b; subst a b
      simpa using rs
    · have hkl : k < env.length := by
        have := (List.getElem?_eq_some_iff.mp a).1
        simp [hpl] at this; omega
      rw [List.getElem?_append_left (by rw [hpl]; exact hkl)] at a
      rw [List.getElem?_append_left (by rw [← R.len]; exact hkl)] at b
      simp only [hk, if_false]
      by_cases hki : k ∈ is
      · have hix := idx_at hki
        obtain ⟨t, v0, e1, e2, e3, e4⟩ := I.get hix
        obtain ⟨t', v0', e5, e6, ow0⟩ := new0 _ _ hix
        rw [e2] at e6; cases e6
        rw [e4] at b; cases b
        rw [if_pos hki]
        have ow : Own K en.w0.H w' t' v0 (F' (is.idxOf k)) := ⟨ow0.1, ow0.2.1, fun p z => ⟨none0 p (ow0.2.2 p z).1, (ow0.2.2 p z).2⟩⟩
        have hzip : (is.zip ts')[is.idxOf k]? = some (k, t') := by rw [List.getElem?_zip_eq_some]; exact ⟨hix, e5⟩
        obtain ⟨p1, p2⟩ := putM_at (is.zip ts') env _ k t' t (by rw [hz]; exact I.nd) hzip e3
        rcases e3 with e3 | e3
        · rw [p1 e3] at a; cases a
          exact ⟨_, rfl, ow⟩
        · obtain ⟨_, ea⟩ := R.sl k _ _ e3 e4
          rw [p2 e3] at a; cases a
          exact ⟨⟨_, rfl, ow⟩, ea⟩
      · rw [if_neg hki]
        have a' : env[k]? = some s' := by rw [putM_ne _ _ _ (by rw [hz]; exact hki)] at a; exact a
        exact (R.sl k s' o a' b).keep sb fun p x z1 z2 => keepB p x (ni k p hki hkl z1) z2
  · have hj' : j ≤ env.length := by simp [hpl] at hj; omega
    have hk' : k ≤ env.length := by simp [hpl] at hk; omega
    by_cases j1 : j = env.length
    · by_cases k1 : k = env.length
      · omega
      · rw [if_pos j1] at a; rw [if_neg k1] at b
        by_cases k2 : k ∈ is
        · rw [if_pos k2] at b; exact (rd k k2 p a b).elim
        · rw [if_neg k2] at b; exact (fresh k p k2 (by omega) b (rn p a)).elim
    · rw [if_neg j1] at a
      by_cases k1 : k = env.length
      · rw [if_pos k1] at b
        by_cases j2 : j ∈ is
        · rw [if_pos j2] at a; exact (rd j j2 p b a).elim
        · rw [if_neg j2] at a; exact (fresh j p j2 (by omega) a (rn p b)).elim
      · rw [if_neg k1] at b
        by_cases j2 : j ∈ is
        · rw [if_pos j2] at a
          by_cases k2 : k ∈ is
          · rw [if_pos k2] at b
            have i1 := il j j2
            have i2 := il k k2
            have := R'.ap _ _ p (by simp; omega) (by simp; omega) a b
            have e1 := idx_at j2
            have e2 := idx_at k2
            rw [this, e2] at e1
            cases e1; rfl
          · rw [if_neg k2] at b
            exact (fresh k p k2 (by omega) b (fr j j2 p a)).elim
        · rw [if_neg j2] at a
          by_cases k2 : k ∈ is
          · rw [if_pos k2] at b; exact (fresh j p j2 (by omega) a (fr k k2 p b)).elim
          · rw [if_neg k2] at b; exact R.ap j k p (by omega) (by omega) a b
end
section
variable {K : PySem.W.Frag} {env : List Sl} {w w' w'' w3 : Wd} {te ta tb tc td ti : TE} {tA : TA} {en : En} {Pm : Sl → List Sl → Prop}
def tVars (is : List Nat) (tA : TA) : TA := is.foldr (fun i a => tCons (tVar i) a) tA
theorem vars_eval {σ : TSt} {H : Hp} {tA : TA} : ∀ (is : List Nat) (vs0 : List V) (Q : List V → Hp → Prop), vs0.length = is.length → (∀ (m i : Nat) v, is[m]? = some i → vs0[m]? = some v → σ[i]? = some (some v)) →
    tA σ H (fun vs H' => Q (vs0 ++ vs) H') → tVars is tA σ H Q
  | [], [], Q, _, _, h => h
  | [], _ :: _, Q, hl, _, h => by simp at hl
  | _ :: _, [], Q, hl, _, h => by simp at hl
  | i :: r, v :: vs, Q, hl, hv, h => ⟨v, hv 0 i v rfl rfl, vars_eval r vs (fun us H' => Q (v :: us) H') (by simpa using hl) (fun m j u a b => hv (m + 1) j u a b) h⟩
theorem io_get {σ : TSt} (R : Rel K en w env σ) : ∀ (is : List Nat) (ts : List OT), is.Nodup → ts.length = is.length → (∀ (m i : Nat) t, is[m]? = some i → ts[m]? = some t → env[i]? = some (.own t) ∨ env[i]? = some (.io t)) → ∃ vs0, IoAt env σ is ts vs0 := by
  intro is
  induction is with
  | nil => intro ts nd hl h; exact ⟨[], nd, hl, rfl, fun m i t v a => by simp at a⟩
  | cons i r ih =>
    intro ts nd hl h
    cases ts with
    | nil => simp at hl
    | cons t ts =>
      have nd' := List.nodup_cons.mp nd
      obtain ⟨vs0, I⟩ := ih ts nd'.2 (by simpa using hl) fun m j u a b => h (m + 1) j u a b
      have e := h 0 i t rfl rfl
      have hv : ∃ v0, σ[i]? = some (some v0) := by
        obtain ⟨F, R⟩ := R
        have hil : i < env.length := by rcases e with e | e <;> exact (List.getElem?_eq_some_iff.mp e).1
        obtain ⟨s, o, q1, q2⟩ := slot_at hil R.len
        rcases e with e | e
        · obtain ⟨v', z, r⟩ := R.sl i _ _ e q2; exact ⟨_, z ▸ q2⟩
        · obtain ⟨⟨v', z, r⟩, _⟩ := R.sl i _ _ e q2; exact ⟨_, z ▸ q2⟩
      obtain ⟨v0, hv⟩ := hv
      refine ⟨v0 :: vs0, nd, by simpa using hl, by simp [I.lv], fun m j u v a b c => ?_⟩
      cases m with
      | zero => simp at a b c; subst a b c; exact ⟨e, hv⟩
      | succ m => exact I.at_ m j u v a b c
/-- f(x, y, .., data ..): the variables `is` are changed -/
theorem em_callN {is : List Nat} {ts : List OT} {S : SpM} {E : XK} (nd : is.Nodup) (hl : ts.length = is.length) (e : ∀ (m i : Nat) t, is[m]? = some i → ts[m]? = some t → env[i]? = some (.own t) ∨ env[i]? = some (.io t))
    (h : EvA K tA env fun ss => ∃ ds : List D, ss = ds.map .val ∧ S (ts.map .io ++ ds.map .val) fun s as' => ∃ ts', ts'.length = is.length ∧ (∀ (m : Nat) t', ts'[m]? = some t' → as'[m]? = some (.io t')) ∧ Pm s (putM env (is.zip ts'))) :
    EvM K (tCall (spM K S) [] E (tVars is tA)) env Pm := fun en w σ R Q q => by
  obtain ⟨vs0, I⟩ := io_get R is ts nd hl e
  have hev : ∀ Q', tA σ w.H (fun vs H' => Q' (vs0 ++ vs) H') → tVars is tA σ w.H Q' := fun Q' z => vars_eval is vs0 Q' I.lv (fun m i v a b => by
    obtain ⟨t, v', e1, e2, _, e4⟩ := I.get a
    rw [b] at e2; cases e2; exact e4) z
  refine hev _ (h en w σ R _ fun ss vs w1 e1 p1 r1 => ?_)
  obtain ⟨ds, rfl, p⟩ := p1
  obtain ⟨F, R1⟩ := R.grow e1
  obtain ⟨w0, hB, h1, h2, Rc⟩ := rel_argsN R1 I (dra_sla r1)
  show spM K S ((vs0 ++ vs) ++ []) w1.H Q E
  rw [List.append_nil]
  refine ⟨⟨w0, vs0 ++ vs⟩, w1, ts.map .io ++ ds.map .val, _, rfl, rfl, Rc, p, fun s v w' as' st sb R' z => ?_⟩
  obtain ⟨ts', l', h0, p⟩ := z
  exact q s v w' _ st (e1.b.trans sb) (back_ioN R1 I hB h1 h2 st sb R' l' h0) p
end
section
variable {K : PySem.W.Frag} {B H : Hp}
theorem look_put {xs : List (Str × OT)} : ∀ {vs : List (Str × V)} {fp : List Addr} {k : Str} {c : OT}, vs.map (·.1) = xs.map (·.1) → TRs K B H (xs.map (·.2)) (vs.map (·.2)) fp → xs.lookup k = some c →
    ∃ (u : V) (j : Nat), vs.lookup k = some u ∧ xs[j]? = some (k, c) ∧ vs[j]? = some (k, u) ∧ ∀ x, xs.set j (k, x) = putFO k x xs := by
  induction xs with
  | nil => intro vs fp k c e r h; cases h
  | cons p r ih =>
    intro vs fp k c e t h
    cases vs with
    | nil => cases e
    | cons q s =>
      obtain ⟨p1, p2⟩ := p
      obtain ⟨q1, q2⟩ := q
      simp only [List.map_cons, List.cons.injEq] at e t
      obtain ⟨rfl, e⟩ := e
      cases t with
      | cons t1 t2 =>
        by_cases hk : k = q1
        · subst hk
          simp only [List.lookup_cons_self, Option.some.injEq] at h
          subst h
          exact ⟨q2, 0, by simp, rfl, rfl, fun x => by simp [putFO]⟩
        · have hk' : (k == q1) = false := by simpa using hk
          rw [List.lookup_cons, hk'] at h
          obtain ⟨u, j, a, c1, c2, d⟩ := ih e t2 h
          exact ⟨u, j + 1, by rw [List.lookup_cons, hk']; exact a, c1, c2, fun x => by
            rw [List.set_cons_succ, d, putFO, if_neg fun z => hk z.symm]⟩
end
section
variable {K : PySem.W.Frag} {env : List Sl} {te ta tb : TE}
/-- a node: a field, the object behind as putFO -/
theorem en_fldP {f : Str} {Pn : Nat → OT → (OT → OT) → Prop} (h : EvN K tb env fun i s g => ∃ C xs, s = .ins C xs ∧ Cls K C ∧ NoAttr K C f ∧ ∃ c, xs.lookup f = some c ∧ Pn i c (fun x => g (.ins C (putFO f x xs)))) : EvN K (tFld K tb f) env Pn := fun en w σ R Q q =>
  h en w σ R _ fun i t s g vr u w1 e1 et hv a p => by
    obtain ⟨C, xs, rfl, c1, c2, c, e, p⟩ := p
    obtain ⟨fs, tr⟩ := (R.grow e1).nodeTR et hv a
    cases tr with
    | @ins pp _ dx _ vs fp hp ek rs =>
      obtain ⟨cv, j, hcv, j1, j2, d⟩ := look_put ek rs e
      have this : (fun x => g (OT.ins C (xs.set j (f, x)))) = fun x => g (.ins C (putFO f x xs)) := funext fun x => by rw [d]
      have p' : Pn i c (fun x => g (OT.ins C (xs.set j (f, x)))) := by rw [this]; exact p
      exact ⟨pp, C, dx, vs, cv, rfl, hp, c1, c2, hcv, q i t c _ vr cv w1 e1 et hv (a.trans (.ins hp j1 j2 .here)) p'⟩
end
end DL

set_option Elab.async false
set_option linter.all false
set_option maxRecDepth 100000
set_option autoImplicit false
namespace DL
open PySem L2 PySem.Spec PyProof.Rows
/-! ### {k: v for t in it} whose keys are tuples -/
theorem setT_in {X : Cx} {pins : List (Addr × Obj)} {σ : L2.St} {H : Hp} {s : Shared} {E : Value → Shared → Prop} {D b : Addr} {kvs : List (List Key × V)} {k : List Key} {v : V} {u r : Value} {Q : Unit → Shared → Prop} (hu : X.A.units < cLine)
    (I : Inv X pins σ H s) (hD : H D = some (.dT kvs)) (eb : H b = some (.tup (k.map kV))) (hz : kvs.length < sizeLine) (ry : RelV (.ref b) u) (rv : RelV v r)
    (h : ∀ s', Inv X pins σ (upd H D (.dT (putK kvs k v))) s' → Q () s') : wpAny (model X.prog X.w) X.A (dictSet D u r) Q E s := by
  obtain rfl : u = Value.ref b := ry
  obtain ⟨z, hs, xs, rel, dd⟩ := dt_of I.hok hD
  have hxs : xs.length ≤ sizeLine := by rw [← Paired.length rel]; exact z
  have hlen : (putK kvs k v).length ≤ sizeLine := by have := length_putK kvs k v; omega
  refine wpAny_dictSet_heap (hsz := hxs) (knd := tupleKind (mixKind X.prog X.w)) hu (key_of I.hok eb) dd fun h' dd' sb => h _ ?_
  obtain ⟨q, es, ep, hq, p2, p3, p4, _, p5⟩ := dd'
  refine d_write I (by rw [hD]; exact True.intro) sb ⟨q, hq⟩ ⟨hlen, hs, _, (rel.put k eb rv).keeps fun c ys ec => ?_, q, es, ep, hq, p2, p3, p4, p5⟩
  have ne : c ≠ D := by intro z; rw [z, hD] at ec; cases ec
  rw [upd_ne ne]; exact ec
def tDcT (wi : TI) (g : TG) (tt : TT) (tk tv : TE) (vs : List Nat) : TE := fun σ H Q => wi σ H fun J H1 => ∀ D, H1 D = none → ∃ W : Nat → Nat → Hp → Prop, (∃ m, W 0 m (upd H1 D (.dT []))) ∧ ∀ i m H, W i m H →
  (J.stop i H ∧ Q (.ref D) H) ∨ (J.go i H ∧ ∃ Nx : Hp → Prop, (∀ H', Nx H' → ∃ m', m' < m ∧ W (i + 1) m' H') ∧ ∀ x H', J.yld i H x H' → g x (L2.wipe σ vs) H' fun σ2 H2 => L2.wipe σ2 vs = L2.wipe σ vs ∧ tt σ2 H2 fun bo H3 =>
    if bo = true then tk σ2 H3 fun y H4 => tv σ2 H4 fun z H5 => ∃ b kvs k, y = .ref b ∧ H5 b = some (.tup (k.map kV)) ∧ H5 D = some (.dT kvs) ∧ kvs.length < sizeLine ∧ Nx (upd H5 D (.dT (putK kvs k z))) else Nx H3)
section
variable {X : Cx}
theorem pe_dcT {kx vx tg iter : Expr} {ifs : List Expr} {scope : Scope} {own : List (Str × Nat)} {pos : Pos} {wi : TI} {g : TG} {tt : TT} {tk tv : TE} (hu : X.A.units + 64 < cLine) (hc : X.calm = true) (hN : X.N.Nodup) (hi : PI X tg iter wi) (ok : BlkOk X.N X.env.scope scope own)
    (hg : ∀ (s : Shared) (H : Hp) (C : Addr) (cl : List (Str × Addr)) (fp : List Addr), PG (X.blk s H scope (compEnvC scope cl C X.env) fp) tg g) (ht : ∀ (s : Shared) (H : Hp) (C : Addr) (cl : List (Str × Addr)) (fp : List Addr), PTs (X.blk s H scope (compEnvC scope cl C X.env) fp) ifs tt)
    (hk : ∀ (s : Shared) (H : Hp) (C : Addr) (cl : List (Str × Addr)) (fp : List Addr), PE (X.blk s H scope (compEnvC scope cl C X.env) fp) kx tk) (he : ∀ (s : Shared) (H : Hp) (C : Addr) (cl : List (Str × Addr)) (fp : List Addr), PE (X.blk s H scope (compEnvC scope cl C X.env) fp) vx tv) (hs : ∀ x, foldedSetIterable iter X.env x = pure x := by intro _; rfl) :
    PE X (.DictComp kx vx [⟨tg, iter, ifs, 0⟩] scope pos) (tDcT wi g tt tk tv (own.map (·.2))) := by
  refine ⟨fun pins s σ H Q I h => ?run⟩; rw [arm_eval_DictComp]
  have frs : ∀ y ∈ scope.names, y.2 = .free → ∃ c, X.env.cells.lookup y.1 = some c := by
    intro y hy e
    exact (ok.free y hy e).elim (fun k => I.ok.has _ (.inl k)) fun k => I.ok.has _ (.inr k)
  refine wpAny_comprehension_free rfl hs (closure_ok frs) ok.kind (fun y hy e => by rw [ok.uniq y hy, e]) (thn (hi.run pins s σ H _ I h) fun xv sA hx => thn hx fun itv sB hB => ?_)
  obtain ⟨it, fp, tn, J, HB, rfl, IB, T, stB, fB, q⟩ := hB
  refine wpAny_newObj_type (newEnv_comp ?_); generalize hD : sB.heap.objs.size = D
  obtain ⟨W, ⟨m0, w0⟩, turn⟩ := q D (IB.hok.fresh (Nat.le_of_eq hD))
  generalize hsC : ({ sB with heap := sB.heap.push { cls := .type "dict", data := .dict #[] } } : Shared) = sC
  have hC : sC.heap = sB.heap.push { cls := .type "dict", data := .dict #[] } := by rw [← hsC]
  have IC : Inv X pins σ (upd HB D (.dT [])) sC := by
    subst hsC hD
    exact IB.laid (t' := sB.toks) (fun b o e => Heap.get?_push_of_some _ e) (Nat.le_refl _) (dt_empty sB.heap IB.big)
  have lt : ∀ b ∈ fp, b < sB.heap.objs.size := fun b hb => (T.obj _ _ stB b hb).elim fun o z => Heap.lt_size z.1
  have fC : ∀ b ∈ fp, FpOk X pins (upd HB D (.dT [])) b ∧ b < sC.heap.objs.size := fun b hb => by
    have hlt := lt b hb
    have nb : b ≠ D := by rw [← hD]; exact Nat.ne_of_lt hlt
    exact ⟨⟨by rw [upd_ne nb]; exact (fB b hb).1, (fB b hb).2⟩, by rw [hC, Heap.size_push]; exact Nat.lt_succ_of_lt hlt⟩
  have stC : tn 0 sC.heap := T.keep _ _ _ stB fun b _ o e => by rw [hC]; exact Heap.get?_push_of_some _ e
  have I4 := block_start IC ok hN fC
  generalize hHC : upd HB D (.dT []) = HC at IC I4 w0 fC
  have pg := hg sC HC sC.heap.objs.size (cellsFrom (sC.heap.objs.size + 1) scope.names (cloFrom X.env.cells scope.names [])) fp
  have pt := ht sC HC sC.heap.objs.size (cellsFrom (sC.heap.objs.size + 1) scope.names (cloFrom X.env.cells scope.names [])) fp
  have pk := hk sC HC sC.heap.objs.size (cellsFrom (sC.heap.objs.size + 1) scope.names (cloFrom X.env.cells scope.names [])) fp
  have pe := he sC HC sC.heap.objs.size (cellsFrom (sC.heap.objs.size + 1) scope.names (cloFrom X.env.cells scope.names [])) fp
  have nfp : ∀ b ∈ fp, HC b = none := fun b hb => (fC b hb).1.1
  have fin0 : ∀ (s' : Shared) (m : _) (H' : Hp), Inv X pins σ H' s' → Q (.ref D) H' → s'.heap.Ns sC.heap.objs.size m → FpOk X pins H' sC.heap.objs.size → compPost (model X.prog X.w) X.A X.xe none (EP X pins σ Q) (.ref D) sC.heap.objs.size (.ok .next) s' := fun s' m H' I' qq hn f => by
    refine ⟨m, hn, fun h'' sb => ?_⟩
    obtain ⟨f0, f1, f2, f3, f4, f5⟩ := f; exact ⟨.ref D, H', I'.turned (t' := s'.toks) (fun b o hb e => (sb.2 b hb).trans e) f0 f1 f3 f4 f5, rfl, qq⟩
  show codeAny _ _ (.compStart (.DictComp kx vx [⟨tg, iter, ifs, 0⟩] scope pos) 0 (.ref it) (.ref D) (compEnvC scope (cellsFrom (sC.heap.objs.size + 1) scope.names (cloFrom X.env.cells scope.names [])) sC.heap.objs.size X.env)) (compPost (model X.prog X.w) X.A X.xe none (EP X pins σ Q) (.ref D) sC.heap.objs.size) { sC with heap := pushCells (sC.heap.push { cls := .type "dict", data := .dict #[] }) scope.names }
  generalize hce : compEnvC scope (cellsFrom (sC.heap.objs.size + 1) scope.names (cloFrom X.env.cells scope.names [])) sC.heap.objs.size X.env = ce at I4 pg pt pk pe ⊢
  have cL : ce.locals = sC.heap.objs.size := by rw [← hce]; rfl
  generalize hs4 : ({ sC with heap := pushCells (sC.heap.push { cls := .type "dict", data := .dict #[] }) scope.names } : Shared) = sD at I4 ⊢
  have stD : tn 0 sD.heap := T.keep _ _ _ stC fun b _ o e => by rw [← hs4]; exact pushCells_keeps _ _ _ _ (Heap.get?_push_of_some _ e)
  have stat : ∀ {σ' : L2.St} {H' : Hp} {s' : Shared}, Inv (X.blk sC HC scope ce fp) [] σ' H' s' → (∀ b ∈ fp, H' b = none) → ∀ b ∈ fp, FpOk (X.blk sC HC scope ce fp) [] H' b := fun {σ' H' s'} I' hn b hb =>
    have e1 := I'.ok.exf b hb
    ⟨hn b hb, e1.1, I'.ok.exfs b hb, .inl hb, fun x c e => e1.2 x c e, fun p hp => absurd (show p ∈ ([] : List (Addr × Obj)) ++ [] from hp) (by simp)⟩
  have loop : codeAny (model X.prog X.w) X.A (.compLoop (.DictComp kx vx [⟨tg, iter, ifs, 0⟩] scope pos) 0 (.ref it) (.ref D) ce) (compPost (model X.prog X.w) X.A X.xe none (EP X pins σ Q) (.ref D) sC.heap.objs.size) sD := by
    refine compLoop_anyD (fun n s' => ∃ i H', Inv (X.blk sC HC scope ce fp) [] (L2.wipe σ (own.map (·.2))) H' s' ∧ tn i s'.heap ∧ (∀ b ∈ fp, H' b = none) ∧ W i n H') ?_ m0 ⟨0, HC, I4, stD, nfp, w0⟩
    rintro n s5 ⟨i, H5, I5, st5, n5, w5⟩; rcases turn i n H5 w5 with ⟨stop, qq⟩ | ⟨go, Nx, hNx, step⟩
    · refine thnF (T.done (X.blk sC HC scope ce fp) rfl rfl rfl hc i [] s5 _ H5 (fun _ _ => False) I5 (stat I5 n5) st5 stop) fun r s6 ⟨hr, I6⟩ => ?_
      subst hr
      have I7 : Inv X pins σ H5 s6 := IC.call' (ch := fp) I6.os I6.base I6.hok I6.bare fun b hb =>
        have f := (fC b hb).1.2
        ⟨f.2.2.1, f.1, f.2.2.2.1, f.2.2.2.2⟩
      have nC : H5 sC.heap.objs.size = none := by have z : H5 ce.locals = none := I6.free; rw [cL] at z; exact z
      obtain ⟨m, hn, _⟩ := I6.loc
      have hn2 : s6.heap.Ns ce.locals m := hn
      rw [cL] at hn2
      exact fin0 s6 m H5 I7 qq hn2 (IC.fpOk (Nat.le_refl _) nC)
    · refine thnF (T.item (X.blk sC HC scope ce fp) rfl rfl rfl hc i [] s5 _ H5 (fun _ _ => False) I5 (stat I5 n5) st5 go) fun r s6 ⟨u, hr, h6⟩ => ?_
      subst hr
      refine thnF h6 fun _ s7 ⟨x, H7, I7, r7, y7, st7, n7⟩ => ?_; refine thnF (pg.run _ s7 _ H7 x u _ (I7.pinned (stat I7 n7) (T.obj _ _ st7)) r7 (step x H7 y7)) fun _ s8 ⟨σ8, H8, I8, hw8, q8⟩ => ?_
      have fin : ∀ {s' : Shared} {H' : Hp}, Inv (X.blk sC HC scope ce fp) ([] ++ pinsAt fp s7.heap) σ8 H' s' → Nx H' → ∃ m, m < n ∧ ∃ i H', Inv (X.blk sC HC scope ce fp) [] (L2.wipe σ (own.map (·.2))) H' s' ∧ tn i s'.heap ∧ (∀ b ∈ fp, H' b = none) ∧ W i m H' := by
        intro s' H' I' nx
        obtain ⟨m', hm, wm⟩ := hNx H' nx; have pinned : ∀ b ∈ fp, ∀ o, s7.heap.get? b = some o → s'.heap.get? b = some o ∧ H' b = none := by
          intro b hb o e
          have z := I'.pin (b, o) (List.mem_append_right _ (List.mem_append_right _ (mem_pinsAt hb e)))
          exact ⟨z.1, z.2.1⟩
        have hl : (L2.wipe σ (own.map (·.2))).length = σ8.length := by rw [← hw8, wipe_length]
        refine ⟨m', hm, i + 1, H', (I'.unpinned (pins := [])).weak hl (fun j v e => (wipe_some (by rw [← hw8] at e; exact e)).1), T.keep _ _ _ st7 fun b hb o e => (pinned b hb o e).1, fun b hb => ?_, wm⟩
        exact (T.obj _ _ st7 b hb).elim fun o z => (pinned b hb o z.1).2
      refine thnF (pt.run _ s8 σ8 H8 _ I8 q8) fun bo s9 ⟨H9, I9, q9⟩ => ?_
      cases bo with
      | false =>
        simp only [Bool.false_eq_true, if_false] at q9 ⊢
        exact fin I9 q9
      | true =>
        simp only [if_true] at q9 ⊢
        refine thnF (pk.run _ s9 σ8 H9 _ I9 q9) fun z sK ⟨yk, HK, IK, rK, qK⟩ => ?_
        refine thnF (pe.run _ sK σ8 HK _ IK qK) fun z2 sL ⟨yv, HL, IL, rL, b, kvs, k, ek, hb, hDL, hzL, nx⟩ => ?_
        subst ek
        exact setT_in (X := X.blk sC HC scope ce fp) (show X.A.units < cLine by omega) IL hDL hb hzL rK rL fun sM IM => fin IM nx
  exact codeAny_compStart_dict loop (T.self X.A 0 _ _ _ stD loop)
end
end DL

set_option Elab.async false
set_option linter.all false
set_option maxRecDepth 100000
set_option autoImplicit false
namespace DL
open PySem L2
/-! ### keys that are tuples, written where they are used -/
def EvK (K : PySem.W.Frag) (te : TE) (env : List Sl) (Pk : List Key → Prop) : Prop := ∀ (en : En) (w : Wd) (σ : TSt), Rel K en w env σ → ∀ Q : VK, (∀ (k : List Key) (b : Addr) (w' : Wd), w.le w' → w'.H b = some (.tup (k.map kV)) → Pk k → Q (.ref b) w'.H) → te σ w.H Q
section
variable {K : PySem.W.Frag} {env : List Sl} {P : Sl → Prop} {Pk : List Key → Prop} {Pp : Post} {w w' w'' w3 : Wd} {te ta tb tc td ti : TE} {tA : TA} {en : En}
theorem keys_inv {B : Hp} : ∀ {k : List Key} {vs : List V}, DrA K B (k.map keyD) vs → vs = k.map kV
  | [], _, h => by cases h; rfl
  | x :: r, _, h => by
    cases h with
    | cons a b => rw [keyD_v a, keys_inv b]; rfl
theorem ek_tup (h : EvV K tA env fun ds => ∃ k : List Key, ds = k.map keyD ∧ k.length ≤ 1000 ∧ Pk k) : EvK K (tTup tA) env Pk := fun en w σ R Q q =>
  h en w σ R _ fun ss vs w1 e1 h1 r1 => by
    obtain ⟨ds, rfl, k, rfl, hl, p⟩ := h1
    have rd := r1.vals
    have ev := keys_inv rd
    refine ⟨by rw [← rd.len, List.length_map]; exact Nat.le_of_lt (small1000 hl), fun pp hp => ?_⟩
    exact q k pp (w1.new pp (.tup vs) hp) (e1.trans (Wd.le_new hp)) (by subst ev; exact upd_same) p
theorem ek_ii {i j : Int} (p : Pk [.inl i, .inl j]) : ∃ k : List Key, [D.int i, D.int j] = k.map keyD ∧ k.length ≤ 1000 ∧ Pk k := ⟨[.inl i, .inl j], rfl, by simp, p⟩
inductive TdT : Sl → List (List Key × OT) → Prop
  | brt {xs : List (List Key × OT)} : TdT (.brt (.dT xs)) xs
  | own {xs : List (List Key × OT)} : TdT (.own (.dT xs)) xs
  | val {xs : List (List Key × D)} : TdT (.val (.dT xs)) (xs.map fun p => (p.1, .imm p.2))
theorem TdT.tr {s : Sl} {xs : List (List Key × OT)} {x : V} (l : TdT s xs) (r : SlN K w w' s x) : ∃ a vs fp, x = .ref a ∧ Rd w'.H a (.dT vs) ∧ vs.map (·.1) = xs.map (·.1) ∧ TRs K w'.B w'.H (xs.map (·.2)) (vs.map (·.2)) fp := by
  have tree : ∀ {xs : List (List Key × OT)}, (∃ f', TR K w'.B w'.H (.dT xs) x f') → ∃ a vs fp, x = .ref a ∧ Rd w'.H a (.dT vs) ∧ vs.map (·.1) = xs.map (·.1) ∧ TRs K w'.B w'.H (xs.map (·.2)) (vs.map (·.2)) fp := fun ⟨f', r2⟩ => by
    cases r2 with
    | dT h e r3 => exact ⟨_, _, _, rfl, .inl h, e, r3⟩
  cases l with
  | brt => exact tree r
  | own => obtain ⟨f, r, _⟩ := r; exact tree ⟨f, r⟩
  | @val xs =>
    cases r with
    | dT h e r3 =>
      refine ⟨_, _, [], rfl, .inr ⟨_, w'.sub _ _ h⟩, by rw [e, List.map_map]; rfl, ?_⟩
      have := TRs.imms (H := w'.H) r3
      rw [List.map_map] at this ⊢
      exact this
theorem ev_inT (h : EvK K ta env fun k => EvE K td env fun s => ∃ xs, TdT s xs ∧ P (.val (.bl (getO xs k).isSome))) : EvE K (tOp rDIn ta td) env P := fun en w σ R Q q =>
  h en w σ R _ fun k b w1 e1 hb p => p en w1 σ (R.grow e1) _ fun s x w2 e2 p2 r2 => by
    obtain ⟨xs, l, p⟩ := p2
    obtain ⟨a, vs, fp, rfl, h1, h2, h3⟩ := l.tr r2
    exact ⟨a, valV vs k, rfl, .inr ⟨vs, k, b, h1, rfl, e2.h _ _ hb, rfl⟩, q (.val (.bl _)) _ w2 (e1.trans e2) p (by rw [← dget_some h2]; exact .bl _)⟩
theorem ev_dnotinT (h : EvK K ta env fun k => EvE K td env fun s => ∃ xs, TdT s xs ∧ P (.val (.bl (!(getO xs k).isSome)))) : EvE K (tOp rDNotIn ta td) env P := fun en w σ R Q q =>
  h en w σ R _ fun k b w1 e1 hb p => p en w1 σ (R.grow e1) _ fun s x w2 e2 p2 r2 => by
    obtain ⟨xs, l, p⟩ := p2
    obtain ⟨a, vs, fp, rfl, h1, h2, h3⟩ := l.tr r2
    exact ⟨a, valV vs k, rfl, .inr ⟨vs, k, b, h1, rfl, e2.h _ _ hb, rfl⟩, q (.val (.bl _)) _ w2 (e1.trans e2) p (by rw [← dget_some h2]; exact .bl _)⟩
/-- a node under a tuple -/
theorem en_dT {Pn : Nat → OT → (OT → OT) → Prop} (h : EvN K tb env fun i s f => ∃ xs, s = .dT xs ∧ EvK K ti env fun k => ∃ c, getO xs k = some c ∧ (∀ j : Nat, xs[j]? = some (k, c) → Pn i c (fun x => f (.dT (xs.set j (k, x)))))) : EvN K (tOp rDG tb ti) env Pn := fun en w σ R Q q =>
  h en w σ R _ fun i t s f vr u w1 e1 et hv a p => by
    obtain ⟨xs, rfl, p⟩ := p
    exact p en w1 σ (R.grow e1) _ fun k b w2 e2 hb p2 => by
      obtain ⟨c, hc, p⟩ := p2
      have a2 := a.mono e2.h
      obtain ⟨fs, tr⟩ := (R.grow (e1.trans e2)).nodeTR et hv a2
      cases tr with
      | @dT pp _ vs fp hp ek rs =>
        obtain ⟨cv, fs, j, hcv, _, j1, j2⟩ := dget_ok ek rs hc
        exact ⟨pp, cv, rfl, .inr ⟨vs, k, b, .inl hp, rfl, hb, hcv.symm⟩, q i t c _ vr cv w2 (e1.trans e2) et hv (a2.trans (.dT hp j1 j2 .here)) (p j j1)⟩
theorem x_newT {te' : TE} (e : te' = tDNewT) (p : P (.own (.dT []))) : EvE K te' env P := by
  subst e
  exact fun en w σ R Q q l hl => q _ _ (w.lay l _ hl) (Wd.le_lay hl) p ⟨[l], .dT upd_same rfl .nil, by simp, fun z hz => by
    have e1 : z = l := by simpa using hz
    subst e1
    exact ⟨hl, (show w.B z = none from Wd.freeB hl)⟩⟩
/-- d[a, b] = a tree of one's own, a new key -/
theorem wp_dputOT (h : EvE K te env fun s => ∃ t, s = .own t ∧ EvN K td env fun i s f => ∃ xs, s = .dT xs ∧ EvK K ti env fun k => getO xs k = none ∧ xs.length < 1000000 ∧ Pp.nx (putS env i (f (.dT (xs ++ [(k, t)]))))) :
    Wp K (tAsg te (gSub td ti rSetD)) env Pp := fun en w σ R D hn _ _ _ =>
  h en w σ R _ fun s v w1 e1 p1 r1 => by
    obtain ⟨tn, rfl, p⟩ := p1
    exact p en w1 σ (R.grow e1) _ fun i t s f vr u w2 e2 et hv a p => by
      obtain ⟨xs, rfl, p⟩ := p
      exact p en w2 σ (R.grow (e1.trans e2)) _ fun k b w3 e3 hb p3 => by
        obtain ⟨hk, hl, p⟩ := p3
        have a3 := a.mono e3.h
        have ew := (e1.trans e2).trans e3
        obtain ⟨fs, ts⟩ := (R.grow ew).nodeTR et hv a3
        obtain ⟨fn, on⟩ := r1
        have on := on.grow (e2.trans e3)
        cases ts with
        | @dT pp _ vs fp hp ek rs =>
          have hn0 : valV vs k = none := by
            have := dget_some (k := k) ek
            rw [hk] at this
            simpa using this
          have hlv : vs.length = xs.length := by simpa using congrArg List.length ek
          refine ⟨pp, _, rfl, .inr ⟨vs, k, b, hp, rfl, hb, Nat.lt_of_lt_of_le (by rw [hlv]; exact hl) (by decide), rfl⟩, ?_⟩
          obtain ⟨w4, h4, b4, R4⟩ := R.write2 (s' := .dT (xs ++ [(k, tn)])) (o' := .dT (putK vs k v)) ew et hv a3 (fun fs ts nd no => by
            cases ts with
            | @dT _ _ vs' fp' hp' ek' rs' =>
              have hp'' := ew.h _ _ hp'
              rw [hp] at hp''; cases hp''
              have npp : pp ∉ fn := fun z => by rw [(on.2.2 pp z).1] at hp'; cases hp'
              refine ⟨by simp, fun H' q1 q2 => ⟨pp :: (fp' ++ (fn ++ [])), .dT q1 ?_ ?_, ?_, fun q z => ?_⟩⟩
              · rw [putK_new v hn0]; simp [ek']
              · rw [putK_new v hn0, List.map_append, List.map_append]
                refine TRs.append (rs'.mono (H' := H') ew.b fun q o z1 z2 => q2 q o (fun e => by subst e; exact (List.nodup_cons.mp nd).1 z1) (ew.h _ _ z2)) (.cons (on.1.mono (H' := H') (Same.refl _) fun q o z1 z2 => q2 q o (fun e => by subst e; exact npp z1) z2) .nil)
              · rw [List.append_nil]
                have nd' := List.nodup_cons.mp nd
                refine List.nodup_cons.mpr ⟨fun z => ?_, List.nodup_append.mpr ⟨nd'.2, on.2.1, fun x z1 y z2 e => ?_⟩⟩
                · rcases List.mem_append.mp z with z | z
                  · exact nd'.1 z
                  · exact npp z
                · subst e
                  obtain ⟨o, ho⟩ := rs'.there x z1
                  rw [(on.2.2 x z2).1] at ho; cases ho
              · rw [List.append_nil] at z
                have : q ∈ pp :: fp' ∨ q ∈ fn := by
                  rcases List.mem_cons.mp z with z | z
                  · exact .inl (by simp [z])
                  · rcases List.mem_append.mp z with z | z
                    · exact .inl (by simp [z])
                    · exact .inr z
                rcases this with z | z
                · exact ⟨(no q z).1, (no q z).2, .inl z⟩
                · obtain ⟨F, R0⟩ := id R
                  exact ⟨R0.le.h.free (on.2.2 q z).1, (on.2.2 q z).2, .inr (on.2.2 q z).1⟩)
          rw [← h4]
          exact hn w4 σ _ (ew.b.trans b4) R4 p
/-- a fresh dict's .get((a, b), e): what it holds is one's own -/
theorem ev_dgetO {tx : TE} (h : EvE K td env fun s => ∃ xs, s = .own (.dT xs) ∧ EvK K ti env fun k => EvE K tx env fun s3 => (∀ c, getO xs k = some c → P (.own c)) ∧ (getO xs k = none → P s3)) : EvE K (tDGet2 td ti tx) env P := fun en w σ R Q q =>
  h en w σ R _ fun s v w1 e1 p1 r1 => by
    obtain ⟨xs, rfl, p⟩ := p1
    obtain ⟨f0, tr, nd, no⟩ := r1
    cases tr with
    | @dT a _ vs fp h1 h2 h3 =>
      refine ⟨a, rfl, .inr ⟨vs, .inl h1⟩, p en w1 σ (R.grow e1) _ fun k b w2 e2 hb p => ?_⟩
      refine p en w2 σ (R.grow (e1.trans e2)) _ fun s3 z w3 e3 p3 r3 => ?_
      have h1' := (e2.trans e3).h _ _ h1
      refine ⟨valV vs k, .inr ⟨vs, k, b, .inl h1', rfl, e3.h _ _ hb, rfl⟩, ?_⟩
      cases hg : getO xs k with
      | some c =>
        obtain ⟨u, fs, j, e, _, j1, j2⟩ := dget_ok h2 h3 hg
        obtain ⟨u', f1, fs', q1, pm, t, _⟩ := h3.focus (j := j) (s := c) (by rw [List.getElem?_map, j1]; rfl)
        rw [List.getElem?_map, j2] at q1
        cases q1
        rw [e]
        have sub : ∀ p ∈ fs', p ∈ a :: fp := fun p hp => List.mem_cons_of_mem _ (pm.mem_iff.mpr (List.mem_append_right _ hp))
        have o1 : Own K w.H w1 c u fs' := ⟨t, ((List.nodup_append.mp (pm.nodup_iff.mp (List.nodup_cons.mp nd).2)).2.1), fun p hp => no p (sub p hp)⟩
        exact q _ _ w3 ((e1.trans e2).trans e3) (p3.1 c hg) ⟨fs', o1.grow (e2.trans e3)⟩
      | none =>
        have hn := dget_some (k := k) h2
        rw [hg] at hn
        have : valV vs k = none := by simpa using hn
        rw [this]
        exact q _ _ w3 ((e1.trans e2).trans e3) (p3.2 hg) (r3.back (e1.trans e2))
/-! ### calls that leave parameters to their defaults (ints) -/
theorem ev_callD {S : SpD} {E : XK} {is : List Int} (h : EvA K tA env fun ss => ∃ ts, Paired Co ss ts ∧ S (ts ++ is.map fun i => .val (.int i)) P) : EvE K (tCall (spD K S) (is.map .int) E tA) env P := fun en w σ R Q q =>
  h en w σ R _ fun ss vs w1 e1 h1 r1 => by
    obtain ⟨ts, c, p⟩ := h1
    have r1' : SlA K w w1 (ss ++ is.map fun i => .val (.int i)) (vs ++ is.map .int) := by
      have two : ∀ l : List Int, SlA K w w1 (l.map fun i => .val (.int i)) (l.map .int) := fun l => by
        induction l with
        | nil => exact .nil
        | cons x r ih => exact .cons (.int x) ih
      exact paired_app r1 (two is)
    have c' : Paired Co (ss ++ is.map fun i => .val (.int i)) (ts ++ is.map fun i => .val (.int i)) := by
      have two : ∀ l : List Int, Paired Co (l.map fun i => Sl.val (.int i)) (l.map fun i => Sl.val (.int i)) := fun l => by
        induction l with
        | nil => exact .nil
        | cons x r ih => exact .cons .val ih
      exact paired_app c (two is)
    obtain ⟨hl, hk⟩ := coA (us := vs ++ is.map .int) c' r1'
    exact ⟨⟨w1, vs ++ is.map .int⟩, w1, ts ++ is.map fun i => .val (.int i), fun s _ => P s, rfl, rfl, ⟨fun _ => [], w1.rfl', by rw [hl, List.length_map], Nat.le_of_eq hl.symm, fun i t o a b => hk i t o a b i, fun i j p _ _ z => by simp at z⟩, by simpa using p, fun s v w' as' st _ R' z =>
      q s v w' (e1.trans R'.le) z ((Rel.last st R').back e1)⟩
end
end DL

set_option Elab.async false
set_option linter.all false
set_option maxRecDepth 100000
set_option autoImplicit false
namespace DL
open PySem L2 PySem.Spec PyProof.Rows
/-! ### sorted of pairs of ints, wherever the pairs stand -/
abbrev encP (p : Int × Int) : D := .tup [.int p.1, .int p.2]
/-- pairs of whole numbers in order: by the first, then by the second -/
def leP (a b : Int × Int) : Prop := a.1 < b.1 ∨ (a.1 = b.1 ∧ a.2 ≤ b.2)
def isP (K : PySem.W.Frag) (H : Hp) (x : V) (p : Int × Int) : Prop := ∃ t, x = V.ref t ∧ SqT K H t [.int p.1, .int p.2]
def rSortPT (K : PySem.W.Frag) : List V → Hp → VK → Prop := fun vs H Q => ∃ (a : Addr) (xs : List V), vs = [V.ref a] ∧ SqL K H a xs ∧ (∀ x ∈ xs, ∃ p, isP K H x p) ∧
  ∀ (k : V → Int × Int) ys l, (∀ x p, isP K H x p → k x = p) → ys.Perm xs → ys.Pairwise (fun x y => leP (k x) (k y)) → H l = none → Q (.ref l) (upd H l (.lst ys))
open Classical in
theorem g_sortP {X : Cx} : CallR X (.builtin "sorted") (rSortPT X.K) := by
  intro pins s σ H vs us Q I r h
  obtain ⟨a, xs, rfl, hs, hx, q⟩ := h
  obtain ⟨its, rv, hl, hz⟩ := I.list hs
  obtain ⟨u, rfl, ru⟩ := vals1 r
  obtain rfl : u = Value.ref a := ru
  obtain ⟨e1, e2⟩ := refs_back rv fun x m => (hx x m).elim fun _ z => z.elim fun t z => ⟨t, z.1⟩
  have big : its.length ≤ sizeLine := by rw [← rv.length]; exact hz
  let k : V → Int × Int := fun x => if h : ∃ p, isP X.K H x p then h.choose else (0, 0)
  have kis : ∀ x p, isP X.K H x p → k x = p := fun x p h => by
    have hh : ∃ p, isP X.K H x p := ⟨p, h⟩
    show (if h : ∃ p, isP X.K H x p then h.choose else (0, 0)) = p
    rw [dif_pos hh]
    obtain ⟨t, e, z⟩ := hh.choose_spec
    obtain ⟨t2, e', z2⟩ := h
    rw [e] at e'; cases e'
    have := I.tuple_inj z z2
    simp at this
    exact Prod.ext this.1 this.2
  refine SrtO.sorted_pairsO (k := fun u => k (backV u)) hl.isList big (fun v hv => ?pr) fun h' d out h1 h2 kp hd hn => ?fin
  case pr =>
    obtain ⟨t, rfl⟩ := e2 v hv
    obtain ⟨p, hp⟩ := hx (V.ref t) (by rw [e1]; exact List.mem_map.mpr ⟨_, hv, rfl⟩)
    have kp := kis _ _ hp
    have kq : k (backV (Value.ref t)) = p := kp
    simp only [kq]
    obtain ⟨t', e, ht⟩ := hp
    cases e
    obtain ⟨its2, r2, tp, _⟩ := I.tuple ht
    obtain ⟨u1, u2, rfl, ri, rj⟩ := vals2 r2
    obtain ⟨o, ho, hc, n, hd⟩ := tp
    obtain ⟨t1, rfl⟩ := ri; obtain ⟨t2, rfl⟩ := rj
    exact ⟨t, o, t1, t2, n, rfl, ho, hc, hd⟩
  case fin =>
    have h3 : ∀ u ∈ out, ∃ a, u = Value.ref a := fun u hu => e2 u ((List.Perm.mem_iff h2.perm).mp hu)
    obtain ⟨n, hn⟩ := hn
    have hb : SrtO.Stb (ltP k) (out.map backV) xs := e1 ▸ SrtO.Stb.map (ltP_swo k) backV h2
    refine ⟨.ref d, upd H d (.lst (out.map backV)), I.laid (t' := s.toks) kp hd ⟨by rw [hb.len]; exact hz, out, n, vals_back h3, hn⟩, rfl, q k _ d kis hb.perm ?_ (I.hok.fresh hd)⟩
    refine (SrtO.srtd_map h1 : SrtO.Srtd (ltP k) (out.map backV)).imp fun {x y} z => ?_
    have := SrtO.lexB_no.mp z
    unfold leP
    omega
theorem g_sortPK {X : Cx} {K : PySem.W.Frag} (hK : X.K = K := by rfl) : CallR X (.builtin "sorted") (rSortPT K) := hK ▸ g_sortP
section
variable {K : PySem.W.Frag} {env : List Sl} {P : Sl → Prop} {w w' : Wd}
theorem encP_inv {B : Hp} {p : Int × Int} {x : V} (h : Dr K B (encP p) x) : ∃ t, x = .ref t ∧ SqT K B t [.int p.1, .int p.2] := by
  cases h with
  | tup h1 r =>
    cases r with
    | cons a b =>
      cases b with
      | cons b c =>
        cases a; cases b; cases c
        exact ⟨_, rfl, h1⟩
theorem drp_inv {B : Hp} {ps : List (Int × Int)} {xs : List V} (h : DrA K B (ps.map encP) xs) : ∀ x ∈ xs, ∃ p ∈ ps, Dr K B (encP p) x := by
  induction ps generalizing xs with
  | nil => cases h; intro x hx; cases hx
  | cons p r ih =>
    cases h with
    | cons a b =>
      intro x hx
      rcases List.mem_cons.mp hx with rfl | hx
      · exact ⟨p, by simp, a⟩
      · obtain ⟨p', m, z⟩ := ih b x hx
        exact ⟨p', by simp [m], z⟩
theorem drp_map {B : Hp} {k : V → Int × Int} : ∀ {ps : List (Int × Int)} {xs : List V}, DrA K B (ps.map encP) xs → (∀ x p, Dr K B (encP p) x → k x = p) → xs.map k = ps
  | [], _, h, _ => by cases h; rfl
  | p :: r, _, h, z => by
    cases h with
    | cons a b => rw [List.map_cons, z _ _ a, drp_map b z]
theorem drp_of {B : Hp} {k : V → Int × Int} : ∀ {ys : List V}, (∀ y ∈ ys, Dr K B (encP (k y)) y) → DrA K B ((ys.map k).map encP) ys
  | [], _ => .nil
  | y :: r, h => .cons (h y (by simp)) (drp_of fun z hz => h z (by simp [hz]))
theorem ra_sortP {s : Sl} {ps : List (Int × Int)} (l : LsS s (ps.map encP)) (p : ∀ ms : List (Int × Int), ms.Perm ps → ms.Pairwise leP → P (.own (oL (ms.map encP)))) : RaP K (rSortPT K) [s] P := fun w wx vs e r Q q => by
  cases r with
  | cons r t =>
    cases t
    obtain ⟨a, xs, rfl, h1, h2⟩ := l.ok r
    refine ⟨a, xs, rfl, h1, fun x hx => ?_, fun k ys lo kis pm srt hlo => ?_⟩
    · obtain ⟨p, _, z⟩ := drp_inv h2 x hx
      obtain ⟨t, e1, e2⟩ := encP_inv z
      exact ⟨p, t, e1, sameT wx.sub e2⟩
    · have kd : ∀ x p, Dr K wx.B (encP p) x → k x = p := fun x p z => by
        obtain ⟨t, e1, e2⟩ := encP_inv z
        exact kis x p ⟨t, e1, sameT wx.sub e2⟩
      have dys : DrA K wx.B ((ys.map k).map encP) ys := drp_of fun y hy => by
        obtain ⟨p, _, z⟩ := drp_inv h2 y (pm.mem_iff.mp hy)
        rw [kd y p z]; exact z
      have pm2 : (ys.map k).Perm ps := by
        have := pm.map k
        rw [drp_map h2 kd] at this
        exact this
      exact q _ _ (wx.lay lo _ hlo) (Wd.le_lay hlo) (p _ pm2 (List.pairwise_map.mpr srt)) (own_new e hlo dys)
end
end DL

set_option Elab.async false
set_option linter.all false
set_option maxRecDepth 100000
set_option autoImplicit false
namespace DL
open PySem L2
section
variable {K : PySem.W.Frag} {env : List Sl} {P : Sl → Prop} {w w' : Wd} {en : En}
end
end DL
/-! ### defs whose last parameters have defaults -/
namespace DL
open PySem L2
structure CalD (Pr : Program) (wd : World) (K : PySem.W.Frag) (mg : Str → Option Value) (base : Heap) (x : Str) (k : Nat) (ps : List Str) (sp : Sp) (is : List Int) : Prop where
  ex : ∃ f fd ds, FnOk Pr wd K mg base CX0 k f fd ps sp ∧ mg x = some (.ref f) ∧ PySem.W.keepIn K (.ref f) = true ∧ Vals (is.map V.int) ds ∧ Binds K fd ps ds
theorem pe_calD {X : Cx} {x : Str} {k : Nat} {ps : List Str} {sp : Sp} {is : List Int} {p pos : Pos} {e : Expr} {es : List Expr} {t : TA} (C : CalD X.prog X.w X.K X.mg X.base x k ps sp is) (hr : Room k X.A) (hg : Gl X x) (ha : PA X (e :: es) t)
    (hdb : (x == ("__debug__" : Str)) = false := by decide) (he : starEach (e :: es) X.env = (false, eval e X.env) :: starEach es X.env := by rfl) (hpl : (backTo pos (starEach es X.env)).any (·.1) = false := by rfl) :
    PE X (.Call (.Name x p) (e :: es) [] pos) (tCall sp (is.map .int) E0 t) := by
  obtain ⟨f, fd, ds, F, hm, hk, hv, hb⟩ := C.ex
  exact pe_call F hr hg hm hk hb hv pass0 ha hdb he hpl
section
variable {Pr : Program} {wd : World} {K : PySem.W.Frag} {mg : Str → Option Value} {base : Heap}
theorem okMD {dvs : List V} {x qual : Str} {st : Stmt} {f : Addr} {fd : FuncData} {N ps : List Str} {k : Nat} {S : SpM} (F : FunD K x qual (defArgs st) (defBody st) (defScope st) dvs [] f fd) (Sc : FnScope N ps (defScope st)) (hl : ∀ as R, S as R → as.length = ps.length)
    (hb : ∀ (cdv : Value) (A : Around) (outer : List Env) (s : Shared) (H : Hp) (E : XK), Room k (A.deeper (PyProof.Rows.envOfC qual (defScope st) s.heap.objs.size f cdv)) →
      ∃ t, PSs (cxOf CX0 Pr wd K mg base N qual (defScope st) f cdv A outer s H E).nox (defBody st) t ∧ ∀ as R, S as R → Wp K t (as ++ List.replicate (N.length - ps.length) .un) { nx := fun e => R (.val .non) (ioS ps.length e), rt := fun s e => R s (ioS ps.length e) }) :
    FnOk Pr wd K mg base CX0 (k + 1) f fd ps (spM K S) := by
  have hvs : ∀ {en : En} {w : Wd} {as : List Sl} {vs : List V} {R : Sl → List Sl → Prop}, Rel K en w as (vs.map some) → S as R → vs.length = ps.length := fun pr sp => by
    have h1 := hl _ _ sp
    have h2 := pr.len
    simp at h2; omega
  have hN : ps.length ≤ N.length := by
    have := congrArg List.length Sc.pre
    simp at this
    omega
  refine F.ok Sc (fun vs H Q E h => ?_) (fun cdv A outer s H vs Q E hr h => ?_)
  · obtain ⟨en, w, as, R, _, _, pr, sp, _⟩ := h
    exact hvs pr sp
  · obtain ⟨t, ht, hw⟩ := hb cdv A outer s H E hr
    refine ⟨t, ht.nox, ?_⟩
    obtain ⟨en, w, as, R, ha, rfl, pr, sp, q⟩ := h
    have hv := hvs pr sp
    have han : ∀ {m : Nat}, en.args.length ≤ m → ps.length ≤ m := fun z => by rw [ha, hv] at z; exact z
    exact hw as R sp en w (L2.start N vs) (rel_start pr hv hN) _
      (fun w' σ' env' sb R' n => q (.val .non) .non w' (ioS ps.length env') (.val _) sb (rel_back (.val _) ha hv R'.len.symm (han R'.an) (R'.push w'.rfl' .non (.val _))) n)
      (fun w' σ' env' _ _ n => n.elim) (fun w' σ' env' _ _ n => n.elim) fun s v w' σ' env' st sb hl' ha' R' z => q s v w' _ st sb (rel_back st ha hv hl' (han ha') R') z
theorem okDD {dvs : List V} {x qual : Str} {st : Stmt} {f : Addr} {fd : FuncData} {N ps : List Str} {k : Nat} {S : SpD} (F : FunD K x qual (defArgs st) (defBody st) (defScope st) dvs [] f fd) (Sc : FnScope N ps (defScope st)) (hl : ∀ as R, S as R → as.length = ps.length)
    (hb : ∀ (cdv : Value) (A : Around) (outer : List Env) (s : Shared) (H : Hp) (E : XK), Room k (A.deeper (PyProof.Rows.envOfC qual (defScope st) s.heap.objs.size f cdv)) →
      ∃ t, PSs (cxOf CX0 Pr wd K mg base N qual (defScope st) f cdv A outer s H E).nox (defBody st) t ∧ ∀ as R, S as R → Wp K t (as ++ List.replicate (N.length - ps.length) .un) { nx := fun _ => R (.val .non), rt := fun s _ => R s }) :
    FnOk Pr wd K mg base CX0 (k + 1) f fd ps (spD K S) :=
  okMD F Sc (fun as R h => hl as _ h) fun cdv A outer s H E hr => by
    obtain ⟨t, ht, hw⟩ := hb cdv A outer s H E hr
    exact ⟨t, ht, fun as R h => wp_imp (hw as _ h) (fun _ z => z _) (fun _ _ z => z _) (fun _ z => z) fun _ z => z⟩
theorem funD_mk {x qual : Str} {st : Stmt} {f T : Addr} {oc ocT : Value} {od an odT : Option Addr} {osl slT : Array (Option Value)} {kV doc pm cdv ct : Value} {i : Int} {tk : Tok} {n : Nat} (l : K.lookup f = some ⟨oc, od, .func (PySem.W.fnOf x qual (defArgs st) (defBody st) (defScope st) (.ref T) kV doc pm an cdv ct), osl⟩)
    (lT : K.lookup T = some ⟨ocT, odT, .seq #[.int i tk] n, slT⟩) (c : PySem.W.codeIn K cdv qual = true) (k : PySem.W.keepIn K (.ref f) = true) : FunD K x qual (defArgs st) (defBody st) (defScope st) [.int i] [] f (PySem.W.fnOf x qual (defArgs st) (defBody st) (defScope st) (.ref T) kV doc pm an cdv ct) :=
  ⟨⟨oc, od, .ref T, kV, doc, pm, an, cdv, ct, osl, rfl, l, c, .inr ⟨by simp, T, _, [.int i tk], n, rfl, lT, rfl, .cons ⟨tk, rfl⟩ .nil⟩, .inl rfl⟩, k⟩
end
end DL
namespace DL
open PySem L2
section
variable {K : PySem.W.Frag} {env : List Sl} {P : Sl → Prop} {Pp : Post} {te td : TE} {tA : TA}
theorem ev_notinTT (h : EvV K tA env fun ds => ∃ k : List Key, ds = k.map keyD ∧ k.length ≤ 1000 ∧ EvE K td env fun s => ∃ xs, TdT s xs ∧ P (.val (.bl (!(getO xs k).isSome)))) : EvE K (tOp rDNotIn (tTup tA) td) env P := ev_dnotinT (ek_tup h)
theorem wp_dputTT (h : EvE K te env fun s => ∃ t, s = .own t ∧ EvN K td env fun i s f => ∃ xs, s = .dT xs ∧ EvK K (tTup tA) env fun k => getO xs k = none ∧ xs.length < 1000000 ∧ Pp.nx (putS env i (f (.dT (xs ++ [(k, t)]))))) : Wp K (tAsg te (gSub td (tTup tA) rSetD)) env Pp := wp_dputOT h
theorem en_dTT {tb : TE} {Pn : Nat → OT → (OT → OT) → Prop} (h : EvN K tb env fun i s f => ∃ xs, s = .dT xs ∧ EvK K (tTup tA) env fun k => ∃ c, getO xs k = some c ∧ (∀ j : Nat, xs[j]? = some (k, c) → Pn i c (fun x => f (.dT (xs.set j (k, x)))))) : EvN K (tOp rDG tb (tTup tA)) env Pn := en_dT h
end
end DL
namespace DL
open PySem L2
theorem pe_dget2O {X : Cx} {o e f : Expr} {apos cpos : Pos} {td ty tx : TE} (hu : X.A.units + 64 < cLine) (ho : PE X o td) (he : PE X e ty) (hf : PE X f tx) (m : M2 X o "get" apos e f cpos) : PE X (.Call (.Attribute o "get" apos) [e, f] [] cpos) (tDGet2 td ty tx) := pe_dget2 (by omega) ho he hf m
end DL
namespace DL
open PySem L2
section
variable {K : PySem.W.Frag} {P : Sl → Prop}
theorem x_ixMA {α : Type} {s : Sl} {enc : α → D} {xs : List α} {x : Int} (l : LsS s (xs.map enc)) (h0 : 0 < xs.length) (p : ∀ y, y ∈ xs → P (.val (enc y))) : RvP K (rIx K) s (.val (.int (x % (xs.length : Int)))) P :=
  x_ixA l (Int.emod_nonneg _ (by omega)) (Int.emod_lt_of_pos _ (by omega)) fun y hy => p y (List.mem_of_getElem? hy)
end
end DL
namespace DL
open PySem L2
section
variable {K : PySem.W.Frag} {env : List Sl} {P : Post}
/-- a loop over what is only partly known -/
theorem wp_forP {wi : TI} {g : TG} {tb : TS} {Pd : List D → Prop} (Inv : List D → Nat → List Sl → Prop) (h : EvI K false wi env Pd) (h0 : ∀ ys, Pd ys → Inv ys 0 env)
    (hs : ∀ ys, Pd ys → ∀ i d env', ys[i]? = some d → Inv ys i env' → ∃ us, GD K g d us ∧ Wp K tb (sets us env') (Post.loop P (Inv ys (i + 1))))
    (hd : ∀ ys, Pd ys → ∀ env', Inv ys ys.length env' → P.nx env') : Wp K (tFor wi g tb) env P := fun en w σ R D hn hb hc hr =>
  h en w σ R _ fun J ds w1 e1 pd it => by
    refine ⟨fun i m σ' H' => m = ds.length - i ∧ i ≤ ds.length ∧ ∃ w' env', w'.H = H' ∧ Same w1.B w'.B ∧ Rel K en w' env' σ' ∧ Inv ds i env', ⟨ds.length, by simp, Nat.zero_le _, w1, env, rfl, Same.refl _, R.grow e1, h0 ds pd⟩, ?_⟩
    rintro i m σ' H' ⟨rfl, hi, w', env', rfl, sb, R', iv⟩
    have itw := it w' ⟨sb, R'.le⟩
    by_cases hlt : i < ds.length
    · right
      obtain ⟨go, yl⟩ := itw.1 i ds[i] (List.getElem?_eq_getElem hlt)
      refine ⟨go, fun σ2 H2 => ∃ w2 env2, w2.H = H2 ∧ Same w1.B w2.B ∧ Rel K en w2 env2 σ2 ∧ Inv ds (i + 1) env2, fun σ2 H2 ⟨w2, env2, q1, q2, q3, q4⟩ => ⟨ds.length - (i + 1), by omega, rfl, hlt, w2, env2, q1, q2, q3, q4⟩, fun x H2 y => ?_⟩
      obtain ⟨w2, rfl, e2, rd⟩ := yl x H2 y
      obtain ⟨us, G, body⟩ := hs ds pd i ds[i] env' (List.getElem?_eq_getElem hlt) iv
      refine G.run rd fun vs gv => ?_
      have sb2 := sb.trans e2.b
      refine body en w2 _ ((R'.grow e2).sets gv) _ (fun w3 σ3 env3 s3 R3 n3 => ⟨w3, env3, rfl, sb2.trans s3, R3, n3⟩) (fun w3 σ3 env3 s3 R3 n3 => hn w3 σ3 env3 ((e1.b.trans sb2).trans s3) R3 n3) (fun w3 σ3 env3 s3 R3 n3 => ⟨w3, env3, rfl, sb2.trans s3, R3, n3⟩) (hr.back (e1.b.trans sb2))
    · left
      have e : i = ds.length := by omega
      subst e
      exact ⟨itw.2 _ (Nat.le_refl _), hn w' σ' env' (e1.b.trans sb) R' (hd ds pd env' iv)⟩
end
theorem perm_nd {l m : List Int} (h1 : l.Nodup) (h2 : m.Nodup) (h : ∀ k, k ∈ l ↔ k ∈ m) : l.Perm m := by
  rw [List.perm_iff_count]
  intro a
  have a1 := List.nodup_iff_count.mp h1 a
  have a2 := List.nodup_iff_count.mp h2 a
  have c1 : 0 < l.count a ↔ a ∈ l := List.count_pos_iff
  have c2 : 0 < m.count a ↔ a ∈ m := List.count_pos_iff
  have := h a
  by_cases q : a ∈ l
  · have q2 := this.mp q
    have := c1.mpr q
    have := c2.mpr q2
    omega
  · have q2 : ¬ a ∈ m := fun z => q (this.mpr z)
    have : ¬ 0 < l.count a := fun z => q (c1.mp z)
    have : ¬ 0 < m.count a := fun z => q2 (c2.mp z)
    omega
theorem srtd_nil : srtd [] = [] := by simp [srtd]
end DL

set_option Elab.async false
set_option linter.all false
set_option maxRecDepth 100000
set_option autoImplicit false
namespace DL
open PySem L2 PySem.Spec PyProof.Rows
/-! ### list(d.values()) -/
def tListVals (td : TE) : TE := fun σ H Q => td σ H fun x H1 => ∃ (a : Addr) (kvs : List (Key × V)), x = .ref a ∧ H1 a = some (.dK kvs) ∧ ∀ l, H1 l = none → Q (.ref l) (upd H1 l (.lst (kvs.map (·.2))))
theorem pe_listVals {X : Cx} {o : Expr} {p pos apos mpos : Pos} {td : TE} (hc : X.calm = true) (hg : Gl X "list") (hm : X.mg "list" = none) (hd : PE X o td) (hbase : attributeBase o "values" X.env (eval o X.env) = eval o X.env := by rfl) (hline : (apos.endLine == mpos.line) = true := by rfl)
    (hse : starEach [Expr.Call (.Attribute o "values" apos) [] [] mpos] X.env = [(false, eval (Expr.Call (.Attribute o "values" apos) [] [] mpos) X.env)] := by rfl) : PE X (.Call (.Name "list" p) [.Call (.Attribute o "values" apos) [] [] mpos] [] pos) (tListVals td) := by
  refine ⟨fun pins s σ H Q I h => ?go⟩
  refine wpAny_Call_Name_kw (ld_blt I hg hm (u := .type "list") (by first | rfl | decide +kernel) ?_ (by first | decide +kernel | decide) (by first | decide +kernel | decide))
  rw [hse]
  refine PySem.callWith_type1 (wpAny_Call_method0_late hbase hline (thn (hd.run pins s σ H _ I h) fun v s1 ⟨x, H1, I1, r1, a, kvs, ex, ha, q⟩ => ?_))
  subst ex
  obtain rfl : v = Value.ref a := r1
  obtain ⟨z, hsys, vs, rel, dof⟩ := dk_of I1.hok ha
  obtain ⟨ep, dat⟩ := dof.dictAt
  have dat0 := dat
  obtain ⟨ob, es, ho, ex, _⟩ := dat0
  refine ⟨"dict", "dict.values", F.plainAttrs_dict, F.slot_dict_values, F.type_dict_values, ⟨ob, ho, ex.1⟩, fun b e => (by cases e; exact ⟨ob, ho, ex.2.1⟩), Calls.callWith_builtin rfl (PySem.evalArgs_none ?_)⟩
  refine call_meetsIn F.slot_dict_values ⟨ob, ho, ex.1⟩ F.entry_dict_values (F.args_dict_values_1 _) (meets_dict_values (mixKind X.prog X.w) a hsys) ⟨⟨vs, dof⟩, ?_⟩
  have keep1 : ∀ b u, s1.heap.get? b = some u → (s1.heap.push { cls := .type "dict_values", data := .fields #[.ref a] }).get? b = some u := fun b u e => Heap.get?_push_of_some _ e
  have hl : kvs.length = vs.length := Paired.length rel
  refine PySem.W.kdl_call (PySem.W.kdl_values (knd := mixKind X.prog X.w) (kvs := vs) (ep := ep) (r := s1.heap.objs.size) (d := a)) (I.ok.hd hc) ⟨⟨_, Heap.get?_push_size _ rfl, rfl, rfl⟩, dat.keep keep1⟩ (by rw [← hl]; exact z) fun h' tk acc' c' hkeep hS hacc => ?_
  generalize hlo : (s1.heap.push { cls := .type "dict_values", data := .fields #[.ref a] }).objs.size = lo at hS
  have hle : s1.heap.objs.size ≤ lo := by rw [← hlo, Heap.size_push]; exact Nat.le_succ _
  refine ⟨.ref lo, upd H1 lo (.lst (kvs.map (·.2))), I1.laid (t' := tk) (fun b u e => hkeep b u (keep1 b u e)) hle ⟨by rw [List.length_map]; exact z, acc'.toList, c', ?_, by rw [Array.toArray_toList]; exact hS⟩, (by show Value.ref _ = Value.ref lo; rw [← hlo]), q lo (I1.hok.fresh hle)⟩
  have el : acc'.toList.length = acc'.size := by simp
  refine vals_of_at (by rw [List.length_map, el, hacc.1, hl]) fun j x w h1 h2 => ?_
  obtain ⟨k, hk⟩ := hacc.2 j w (by rw [← Array.getElem?_toList]; exact h2)
  obtain ⟨y, hy, ry⟩ := KV.at' rel hk
  rw [List.getElem?_map, hy] at h1
  cases h1
  exact ry
section
variable {K : PySem.W.Frag} {env : List Sl} {P : Sl → Prop} {td : TE}
theorem ev_listVals (h : EvE K td env fun s => ∃ (xs : List (Key × OT)) (ds : List D), TdN s xs ∧ xs.map (·.2) = ds.map OT.imm ∧ P (.own (oL ds))) : EvE K (tListVals td) env P := fun en w σ R Q q =>
  h en w σ R _ fun s x w1 e1 p1 r1 => by
    obtain ⟨xs, ds, l, e, p⟩ := p1
    obtain ⟨a, vs, fp, rfl, h1, h2, h3⟩ := l.tr r1
    rw [e] at h3
    exact ⟨a, vs, rfl, h1, fun lo hlo => q _ _ (w1.lay lo _ hlo) (e1.trans (Wd.le_lay hlo)) p (own_new e1 hlo h3.imms_inv.2)⟩
end
end DL

set_option Elab.async false
set_option linter.all false
set_option maxRecDepth 100000
set_option autoImplicit false
/-! ### enumerate of a tuple -/
namespace DL
open PySem L2 PySem.Spec PyProof.Rows
section
variable {prog : Program} {w : World} {A : Around} {E : Value → Shared → Prop} {s : Shared}
set_option maxHeartbeats 1000000 in
theorem enumerate_new1 {v : Value} {o : Obj} {H : Heap → Prop} (B : Begins v o H) :
    Meets (Builtin.«enumerate.__new__» ⟨[.type "enumerate", v], []⟩) (fun _ R s => H s.heap ∧ R (.ok (.ret (.ref (s.heap.push o).objs.size))) { s with heap := (s.heap.push o).push { cls := .type "enumerate", data := .fields #[.none, .bool false, .ref s.heap.objs.size, rawInt 0, .none, .none] } }) :=
  .of_wp fun prog w A R s h => by
    obtain ⟨hp, g, d, tk, os⟩ := s; obtain ⟨hH, h⟩ := h
    have sub := sub_enumerate
    have go : ∀ {A' : Around} {E : Value → Shared → Prop} {Q : Value → Shared → Prop}, Q (.ref hp.objs.size) ⟨hp.push o, g, d, tk, os⟩ → wpAny (model prog w) A' (pyIter v) Q E ⟨hp, g, d, tk, os⟩ := fun q => B.iter prog w _ _ ⟨hp, g, d, tk, os⟩ _ hH q
    wp_walk using go
    refine wpAny_stack_any fun st => wpAny_pure ?_
    split
    · rename_i c _ _ _ _ _
      cases (c == Value.type "enumerate") <;> (wp_walk using go; exact ⟨_, rfl, h⟩)
    · wp_walk using go
      exact ⟨_, rfl, h⟩
theorem call_enum1 {v : Value} {o : Obj} {H : Heap → Prop} {Q : Value → Shared → Prop} (B : Begins v o H) (hH : H s.heap)
    (h : ∀ h', IsEnum h' (s.heap.objs.size + 1) s.heap.objs.size 0 .none → h'.get? s.heap.objs.size = some o → (∀ b o, s.heap.get? b = some o → h'.get? b = some o) → Q (.ref (s.heap.objs.size + 1)) { s with heap := h' }) : wpAny (model prog w) A (call (.type "enumerate") [v]) Q E s := by
  refine callType_new F.called_enumerate (by decide) (F.typeCall_enumerate_1 _) (F.newCall_enumerate_1 _) (fun obj => F.args_object_init_2 obj _) F.entry_enumerate_new (enumerate_new1 B) ⟨hH, ?_⟩
  have sz : (s.heap.push o).objs.size = s.heap.objs.size + 1 := Heap.size_push ..
  show _ ∧ _
  have at1 : IsEnum ((s.heap.push o).push { cls := .type "enumerate", data := .fields #[.none, .bool false, .ref s.heap.objs.size, rawInt 0, .none, .none] }) (s.heap.objs.size + 1) s.heap.objs.size 0 .none := by
    have z := Heap.get?_push_size (s.heap.push o) (o := { cls := .type "enumerate", data := .fields #[.none, .bool false, .ref s.heap.objs.size, rawInt 0, .none, .none] }) rfl
    rw [sz] at z; exact z
  rw [sz]
  exact ⟨⟨_, at1, rfl⟩, h _ at1 (Heap.get?_push_of_some _ (Heap.get?_push_size _ B.free)) fun b o x => Heap.get?_push_of_some _ (Heap.get?_push_of_some _ x)⟩
theorem enum_end_tuple {e it t : Addr} {i : Nat} {c : Int} {items : Array Value} {ov : Value} {Q : Option Value → Shared → Prop} (hh : A.handled = none) (he : IsEnum s.heap e it c ov) (ti : s.heap.IsTupleIter it t i) (ht : s.heap.IsTuple t items) (hx : items[i]? = none)
    (hQ : ∀ h', Heap.ExtBut it s.heap h' → Q none { s with heap := h' }) : wpAny (model prog w) A (pyNext (.ref e)) Q E s := by
  have ty : s.TypeIs (.ref e) "enumerate" := ⟨_, he, rfl⟩
  unfold pyNext
  refine wpAny_bind (wpAny_attempt (wpAny_callSpecial?_slot (name := Str.ofString "__next__") ty F.slot_enumerate_next (wpAny_call_entry F.slot_enumerate_next ty F.entry_enumerate_next ?_ (F.args_enumerate_next_1 _))))
  show wpAny _ _ (field (.ref e) 2 >>= _) _ _ _
  refine wpAny_bind (wpAny_field he rfl (x := .ref it) rfl ?_)
  refine wpAny_bind (wpAny_nextOf_tuple_end hh ti ht hx fun h' x eb ex => ?_)
  obtain ⟨o, ho, hc⟩ := ex
  exact wpAny_bind (wpAny_isInstance (T := "StopIteration") (b := true) ⟨o, ho, hc⟩ isSubtype_stop (wpAny_pure (hQ _ eb)))
end
/-- the tuple at a, each item in a new pair -/
def IteT (K : PySem.W.Frag) (a : Addr) : It :=
  ⟨fun i H => ∃ (xs : List V) (x : V), SqT K H a xs ∧ xs[i]? = some x, fun i H v H' => ∃ T x, v = .ref T ∧ H T = none ∧ H' = upd H T (.tup [.int (i : Nat), x]) ∧ ∀ xs, SqT K H a xs → xs[i]? = some x, fun i H => ∃ xs : List V, SqT K H a xs ∧ xs.length ≤ i⟩
theorem turn_enumT {P : Program} {w : World} {K : PySem.W.Frag} {elts : List Expr} {kk : Nat} {tpos : Pos} (a e it : Addr) :
    Turn P w K (.Tuple elts kk tpos) (IteT K a) [e, it] e (fun i h => (∃ ov, IsEnum h e it ((i : Nat) : Int) ov) ∧ h.IsTupleIter it a i ∧ e ≠ it) where
  mem := by simp
  obj := fun i h st b hb => by
    obtain ⟨⟨ov, he⟩, ⟨o, ho, hc, hd⟩, _⟩ := st
    rcases (by simpa using hb : b = e ∨ b = it) with z | z
    · subst z; exact ⟨_, he, fun v q => nomatch q⟩
    · subst z; exact ⟨o, ho, fun v q => by rw [hd] at q; cases q⟩
  keep := fun i h h' st k => ⟨st.1.elim fun ov he => ⟨ov, k e (by simp) _ he⟩, st.2.1.at fun o q => k it (by simp) o q, st.2.2⟩
  item := by
    intro X eP eW eK hc i pins s σ H E I hf st hg
    subst eP eW eK
    obtain ⟨⟨ov, he⟩, ti, nEI⟩ := st
    obtain ⟨xs, x, hq, hx⟩ := hg
    obtain ⟨vz, rv, p, hz⟩ := I.tuple hq
    obtain ⟨u, hu, ru⟩ := rv.get hx
    have ltE : e < s.heap.objs.size := Heap.lt_size he
    have ltI : it < s.heap.objs.size := by obtain ⟨_, q, _⟩ := ti; exact Heap.lt_size q
    have ae : a ≠ e := fun z => by
      obtain ⟨o, ho, hcl, _⟩ := p
      rw [z] at ho; have := ho.symm.trans he; cases this; exact absurd (Value.type.inj hcl) (by decide)
    have ai : a ≠ it := fun z => by
      obtain ⟨o, ho, hcl, _⟩ := p
      obtain ⟨o2, ho2, hc2, _⟩ := ti
      rw [z] at ho; rw [ho] at ho2; cases ho2; rw [hcl] at hc2; exact absurd (Value.type.inj hc2) (by decide)
    have hlt : i < vz.toArray.size := by have := (List.getElem?_eq_some_iff.mp hu).1; simpa using this
    refine wpAny_pyNext_enum_itemD (Draws.tuple (A := X.A.in1) (I.ok.hd hc) it a ai vz.toArray) he ⟨ti, p⟩ hlt nEI (by simp [nEI, Ne.symm ae]) fun x2 h' tk eP ho st2 hT hsz hk => ?_
    have e2 : x2 = u := by
      have : vz.toArray[i]? = some x2 := eP
      rw [show vz.toArray[i]? = vz[i]? by simp, hu] at this
      exact Eq.symm (Option.some.inj this)
    subst e2
    refine ⟨_, rfl, wpAny_letOwnedTupleGo_enum (s := { s with heap := h', toks := tk + 1 }) ho fun h'' he' sb => ?_⟩
    have hT2 : h''.get? s.heap.objs.size = some { cls := .type "tuple", data := .seq #[.int i tk, x2] } := (sb.2 _ (Nat.ne_of_gt ltE)).trans hT
    have new : ObjOk X.prog X.w (upd H s.heap.objs.size (.tup [.int (i : Nat), x])) h'' s.heap.objs.size (.tup [.int (i : Nat), x]) := ⟨by show 2 ≤ sizeLine; decide, [.int i tk, x2], .cons ⟨_, rfl⟩ (.cons ru .nil), ⟨_, hT2, rfl, _, rfl⟩⟩
    have J1 : Inv X pins σ (upd H s.heap.objs.size (.tup [.int (i : Nat), x])) { s with heap := h'', toks := tk + 1 } :=
      I.turnedNew (ch := [e, it]) (fun b ob hb q => (sb.2 b (fun z => hb (by simp [z]))).trans (hk b ob (fun z => hb (by simp [z])) (fun z => hb (by simp [z])) q)) hf (Nat.le_refl _) new
    refine ⟨.ref s.heap.objs.size, _, J1, rfl, ⟨_, x, rfl, I.hok.fresh (Nat.le_refl _), rfl, fun ys hy => by rw [I.tuple_inj hy hq]; exact hx⟩, ⟨⟨x2, ?_⟩, st2.1.at fun o q => (sb.2 it (Ne.symm nEI)).trans q, nEI⟩, fun b hb => ?_⟩
    · rw [show ((i + 1 : Nat) : Int) = (i : Int) + 1 by omega]; exact he'
    · have hb' : b < s.heap.objs.size := by
        rcases (by simpa using hb : b = e ∨ b = it) with z | z <;> subst z <;> assumption
      rw [upd_ne (Nat.ne_of_lt hb')]; exact (hf b hb).1
  done := by
    intro X eP eW eK hc i pins s σ H E I hf st hg
    subst eP eW eK
    obtain ⟨⟨ov, he⟩, ti, nEI⟩ := st
    obtain ⟨xs, hq, hx⟩ := hg
    obtain ⟨vz, rv, p, hz⟩ := I.tuple hq
    obtain ⟨g0, g1, g3, g4, g5, g6⟩ := hf it (by simp)
    have hl := rv.length
    exact enum_end_tuple (I.ok.hd hc) he ti p (by simp; omega) fun h' eb => ⟨rfl, I.turned (t' := s.toks) (fun b o hb q => eb b o hb q) g0 g1 g4 g5 g6⟩
  self := fun A i s Q E st h => st.1.elim fun _ he => wpAny_pyIter_enum he h
def iEnumT (K : PySem.W.Frag) (ta : TA) : TI := fun σ H R => ta σ H fun vs H1 => ∃ a xs, vs = [.ref a] ∧ SqT K H1 a xs ∧ R (IteT K a) H1
theorem pi_enumT {X : Cx} {e : Expr} {ta : TA} {p pos tpos : Pos} {elts : List Expr} {kk : Nat} (hg : Gl X "enumerate") (hm : X.mg "enumerate" = none) (ha : PA X [e] ta) (hs : starEach [e] X.env = [(false, eval e X.env)] := by rfl) :
    PI X (.Tuple elts kk tpos) (.Call (.Name "enumerate" p) [e] [] pos) (iEnumT X.K ta) := by
  refine ⟨fun pins s σ H R I h => ?go⟩
  refine Call_ (ld_blt I hg hm boot_enumerate (PyProof.Rows.callWith_type1 (thn (ha.run pos pins s σ H _ I h) fun us s1 ⟨vs, H1, J1, r1, q1⟩ => ?_) hs rfl))
  obtain ⟨a, xs, rfl, hq, q⟩ := q1
  obtain ⟨u, rfl, r⟩ := vals1 r1
  obtain rfl : u = Value.ref a := r
  obtain ⟨vz, rv, p', hz⟩ := J1.tuple hq
  refine call_enum1 (begins_tuple a vz.toArray) p' fun h' he ti hk => wpAny_pyIter_enum he ?_
  have J2 : Inv X pins σ H1 { s1 with heap := h' } := J1.kept (t' := s1.toks) hk
  refine ⟨s1.heap.objs.size + 1, [s1.heap.objs.size + 1, s1.heap.objs.size], _, _, H1, rfl, J2, turn_enumT a (s1.heap.objs.size + 1) s1.heap.objs.size, ⟨⟨.none, he⟩, ⟨_, ti, rfl, rfl⟩, Nat.succ_ne_self _⟩, fun b hb => ?_, q⟩
  have lb : s1.heap.objs.size ≤ b := by
    rcases (by simpa using hb : b = s1.heap.objs.size + 1 ∨ b = s1.heap.objs.size) with z | z
    · rw [z]; exact Nat.le_succ _
    · rw [z]; exact Nat.le_refl _
  exact J1.fpOk lb (J1.hok.fresh lb)
theorem pi_enumTK {X : Cx} {K : PySem.W.Frag} {e : Expr} {ta : TA} {p pos tpos : Pos} {elts : List Expr} {kk : Nat} (hg : Gl X "enumerate") (hm : X.mg "enumerate" = none) (ha : PA X [e] ta) (hs : starEach [e] X.env = [(false, eval e X.env)] := by rfl) (eK : X.K = K := by rfl) :
    PI X (.Tuple elts kk tpos) (.Call (.Name "enumerate" p) [e] [] pos) (iEnumT K ta) := eK ▸ pi_enumT hg hm ha hs
section
variable {K : PySem.W.Frag} {env : List Sl}
theorem itd_enumT {a : Addr} {xs : List V} {ds : List D} {L : Wd → Prop} (h1 : ∀ w, L w → SqT K w.H a xs) (h2 : ∀ w, L w → DrA K w.B ds xs) : ItD K (IteT K a) L (enumD 0 ds) := fun w eW => by
  have hl := (h2 w eW).len
  refine ⟨fun i d hd => ?_, fun i hi => ⟨xs, h1 w eW, by rw [enumD_len] at hi; omega⟩⟩
  obtain ⟨d0, hd0, rfl⟩ := enum_at hd
  obtain ⟨x, hx, hr⟩ := (h2 w eW).get hd0
  refine ⟨⟨xs, x, h1 w eW, hx⟩, fun v H' y => ?_⟩
  obtain ⟨T, x', rfl, hT, rfl, hy⟩ := y
  have ex : x' = x := by
    have := hy xs (h1 w eW)
    rw [hx] at this
    exact Eq.symm (Option.some.inj this)
  subst ex
  exact ⟨w.new T _ hT, rfl, Wd.le_new hT, .tup (.inl (.inl upd_same)) (.cons (.int _) (.cons (hr.mono (Wd.le_new hT).b) .nil))⟩
theorem ei_enumT {b : Bool} {te : TE} {Pd : List D → Prop} (h : EvE K te env fun s => ∃ ds, s = .val (.tup ds) ∧ Pd (enumD 0 ds)) : EvI K b (iEnumT K (tCons te tNil)) env Pd := fun en w σ R Q q =>
  h en w σ R _ fun s v w1 e1 p1 r1 => by
    obtain ⟨ds, rfl, p⟩ := p1
    cases r1 with
    | @tup a xs _ h1 r =>
      exact ⟨a, xs, rfl, sameT w1.sub h1, q _ _ w1 e1 p (itd_enumT (fun w eW => sameT w.sub (sameT eW.b h1)) fun w eW => r.mono eW.b)⟩
end
end DL

set_option Elab.async false
set_option linter.all false
set_option maxRecDepth 100000
set_option autoImplicit false
namespace DL
open PySem L2
/-! ### texts of the top, is True, bools compared, in a tuple of whole numbers -/
structure Gstr (mg : Str → Option Value) (x : Str) (i : Str) : Prop where
  ex : ∃ t, mg x = some (.str i t)
theorem pe_gstr {X : Cx} {x i : Str} {pos : Pos} (hg : Gl X x) (G : Gstr X.mg x i) (hd : (x == ("__debug__" : Str)) = false := by decide) : PE X (.Name x pos) (tC (.str i)) := by
  obtain ⟨t, e⟩ := G.ex
  exact pe_glob hg e (by first | rfl | exact ⟨_, rfl⟩) hd
def rIsBl : R2 := fun x y H Q => ∃ a b, x = V.bl a ∧ y = V.bl b ∧ Q (.bl (decide (a = b))) H
def rNotBl : R2 := fun x y H Q => ∃ a b, x = V.bl a ∧ y = V.bl b ∧ Q (.bl (!decide (a = b))) H
theorem g_isB {X : Cx} : OpR X (compareOp .Is) rIsBl := op_is_bl
theorem g_isnotB {X : Cx} : OpR X (compareOp .IsNot) rNotBl := op_isnot_bl
section
variable {K : PySem.W.Frag} {env : List Sl} {P : Sl → Prop}
theorem rv_isB {a b : Bool} (p : P (.val (.bl (decide (a = b))))) : RvP K rIsBl (.val (.bl a)) (.val (.bl b)) P := fun w wx x y _ r1 r2 Q q => by
  cases r1; cases r2
  exact ⟨a, b, rfl, rfl, q _ _ wx wx.rfl' p (.bl _)⟩
theorem rv_notB {a b : Bool} (p : P (.val (.bl (!decide (a = b))))) : RvP K rNotBl (.val (.bl a)) (.val (.bl b)) P := fun w wx x y _ r1 r2 Q q => by
  cases r1; cases r2
  exact ⟨a, b, rfl, rfl, q _ _ wx wx.rfl' p (.bl _)⟩
theorem d_eqB {i j : Bool} (p : P (.val (.bl (decide (i = j))))) : RvP K (rEqG K) (.val (.bl i)) (.val (.bl j)) P := rv_L fun w wx x y _ r1 r2 Q q => by
  cases r1; cases r2
  refine ⟨rfl, ?_⟩
  have e : decide (V.bl i = V.bl j) = decide (i = j) := by simp
  rw [e]; exact q _ _ wx wx.rfl' p (.bl _)
theorem d_neB {i j : Bool} (p : P (.val (.bl (!decide (i = j))))) : RvP K (rNeG K) (.val (.bl i)) (.val (.bl j)) P := rv_L fun w wx x y _ r1 r2 Q q => by
  cases r1; cases r2
  refine ⟨rfl, ?_⟩
  have e : decide (V.bl i = V.bl j) = decide (i = j) := by simp
  rw [e]; exact q _ _ wx wx.rfl' p (.bl _)
theorem inV_ints (ks : List Int) (k : Int) : inV (V.int k) (ks.map V.int) = decide (k ∈ ks) := by
  unfold inV
  induction ks with
  | nil => rfl
  | cons x r ih =>
    rw [List.map_cons, List.any_cons, ih]
    by_cases e : x = k
    · subst e; simp [eqV]
    · have e2 : ¬ k = x := fun z => e z.symm
      simp [eqV, e, e2]
theorem d_inTI {ks : List Int} {k : Int} (p : P (.val (.bl (decide (k ∈ ks))))) : RvP K (rInG K) (.val (.int k)) (.val (.tup (ks.map .int))) P := rv_R (rv_L fun w wx x y _ r1 r2 Q q => by
  cases r1
  cases r2 with
  | @tup a xs _ h1 r =>
    have := r.ints_inv
    subst this
    refine ⟨a, _, rfl, .inr (sameT wx.sub h1), rfl, ?_, ?_⟩
    · rw [List.all_map, List.all_eq_true]; intro x _; rfl
    · rw [if_neg (by decide), inV_ints]; exact q _ _ wx wx.rfl' p (.bl _))
/-- an int or None, as data -/
def oi : Option Int → D
  | none => .non
  | some i => .int i
theorem oi_pl (o : Option Int) : Pl 0 (oi o) := by cases o; exact .non 0; exact .int 0 _
theorem oi_eq (a b : Option Int) : eqD (oi a) (oi b) = decide (a = b) := by
  have := eqD_iff (oi_pl a) (oi_pl b)
  have inj : oi a = oi b ↔ a = b := by
    constructor
    · intro h; cases a <;> cases b <;> first | rfl | (cases h; rfl) | (cases h; done)
    · intro h; rw [h]
  by_cases e : a = b
  · rw [decide_eq_true e]; exact this.mpr (inj.mpr e)
  · rw [decide_eq_false e]
    cases q : eqD (oi a) (oi b) with
    | false => rfl
    | true => exact (e (inj.mp (this.mp q))).elim
theorem d_eqO {a b : Option Int} (p : P (.val (.bl (decide (a = b))))) : RvP K (rEqG K) (.val (oi a)) (.val (oi b)) P := d_eqD 0 0 rfl rfl (oi_pl a) (oi_pl b) (by decide) (by decide) (by rw [oi_eq]; exact p)
theorem oi_non (a : Option Int) : DL.isNon (oi a) = a.isNone := by cases a <;> rfl
end
end DL
namespace DL
open PySem L2
section
variable {K : PySem.W.Frag} {P : Sl → Prop}
theorem x_ixTE {α : Type} {enc : α → D} {xs : List α} {k : Int} (h0 : 0 ≤ k) (h : ∃ x, xs[k.toNat]? = some x ∧ P (.val (enc x))) : RvP K (rIx K) (.val (.tup (xs.map enc))) (.val (.int k)) P := let ⟨_, e, p⟩ := h
  x_ixT ⟨_, atI_of h0 (by rw [List.getElem?_map, e]; rfl), p⟩
theorem x_slTtF {α : Type} {enc : α → D} {xs : List α} {k : Int} (h0 : 0 ≤ k) (p : P (.val (.tup ((xs.drop k.toNat).map enc)))) : RsP K (rSlG K) (.val (.tup (xs.map enc))) (some k) none P :=
  d_slT (by rw [cutD_from h0, ← List.map_drop]; exact p)
end
end DL
namespace DL
open PySem L2
section
variable {K : PySem.W.Frag} {P : Sl → Prop}
theorem x_ixTL {α : Type} {enc : α → D} {xs : List α} (h : ∃ x, xs.getLast? = some x ∧ P (.val (enc x))) : RvP K (rIx K) (.val (.tup (xs.map enc))) (.val (.int (-1))) P := by
  obtain ⟨x, e, p⟩ := h
  have hl : xs ≠ [] := fun z => by rw [z] at e; cases e
  have hl2 : 0 < xs.length := List.length_pos_iff.mpr hl
  rw [List.getLast?_eq_getElem?] at e
  refine x_ixT ⟨enc x, ?_, p⟩
  unfold atI
  rw [show ixN (xs.map enc).length (-1) = some (xs.length - 1) by unfold ixN; rw [List.length_map]; simp; omega]
  show (xs.map enc)[xs.length - 1]? = _
  rw [List.getElem?_map, e]; rfl
end
end DL
namespace DL
open PySem L2
/-- a block within a block, without names from outside -/
theorem blkOk_nf {N : List Str} {sc sc0 scope : Scope} {own : List (Str × Nat)} (B : BlkOk N sc0 scope own) (nf : ∀ y ∈ scope.names, y.2 ≠ .free) : BlkOk N sc scope own := ⟨B.kind, B.uniq, B.ix, fun y hy e => (nf y hy e).elim, B.own⟩
end DL

set_option Elab.async false
set_option linter.all false
set_option maxRecDepth 100000
set_option autoImplicit false
namespace DL
open PySem L2
/-! ### a dict that no longer changes becomes data: its things are locked for good -/
structure Fz (fs : List Addr) (H H2 : Hp) : Prop where
  old : ∀ a, a ∉ fs → H2 a = H a
  new : ∀ a ∈ fs, ∃ u o, H a = some u ∧ H2 a = some (.frz o u)
def MutAt (H : Hp) (fs : List Addr) : Prop := fs.Nodup ∧ ∀ a ∈ fs, ∃ u, H a = some u ∧ Mut (some u)
theorem inv_fz {X : Cx} {pins : List (Addr × Obj)} {σ : L2.St} {s : Shared} : ∀ (fs : List Addr) {H : Hp}, L2.Inv X pins σ H s → MutAt H fs → ∃ H2, Fz fs H H2 ∧ L2.Inv X pins σ H2 s
  | [], H, I, _ => ⟨H, ⟨fun _ _ => rfl, fun _ h => by simp at h⟩, I⟩
  | d :: r, H, I, ⟨nd, m⟩ => by
    obtain ⟨u, hd, mu⟩ := m d (by simp)
    obtain ⟨od, I1⟩ := I.lock hd mu
    rw [List.nodup_cons] at nd
    have ne : ∀ a ∈ r, a ≠ d := fun a ha z => nd.1 (z ▸ ha)
    obtain ⟨H2, f, I2⟩ := inv_fz r I1 ⟨nd.2, fun a ha => by rw [upd_ne (ne a ha)]; exact m a (by simp [ha])⟩
    refine ⟨H2, ⟨fun a ha => ?_, fun a ha => ?_⟩, I2⟩
    · rw [List.mem_cons, not_or] at ha
      rw [f.old a ha.2, upd_ne ha.1]
    · by_cases z : a = d
      · subst z
        exact ⟨u, od, hd, by rw [f.old a nd.1, upd_same]⟩
      · have ha' : a ∈ r := by simpa [z] using ha
        obtain ⟨u', o', e1, e2⟩ := f.new a ha'
        rw [upd_ne z] at e1
        exact ⟨u', o', e1, e2⟩
def tFz (te : TE) : TE := fun σ H Q => te σ H fun v H1 => ∃ fs, MutAt H1 fs ∧ ∀ H2, Fz fs H1 H2 → Q v H2
def tFzS (t : TS) : TS := fun D σ H => ∃ fs, MutAt H fs ∧ ∀ H2, Fz fs H H2 → t D σ H2
theorem pe_fz {X : Cx} {e : Expr} {te : TE} (h : PE X e te) : PE X e (tFz te) := by
  refine ⟨fun pins s σ H Q I hw => ?_⟩
  refine thn (h.run pins s σ H _ I hw) fun v s1 ⟨x, H1, I1, r, fs, m, q⟩ => ?_
  obtain ⟨H2, f, I2⟩ := inv_fz fs I1 m
  exact ⟨x, H2, I2, r, q H2 f⟩
theorem ps_fz {X : Cx} {st : Stmt} {t : TS} (h : PS X st t) : PS X st (tFzS t) := by
  refine ⟨fun pins s σ H D I hw => ?_⟩
  obtain ⟨fs, m, q⟩ := hw
  obtain ⟨H2, f, I2⟩ := inv_fz fs I m
  exact h.run pins s σ H2 D I2 (q H2 f)
mutual
/-- the tree as data -/
inductive TZ : OT → D → Prop
  | imm (d : D) : TZ (.imm d) d
  | lst {xs : List OT} {ds : List D} : TZs xs ds → TZ (.lst xs) (.lst ds)
  | tup {xs : List OT} {ds : List D} : TZs xs ds → TZ (.tup xs) (.tup ds)
  | dK {xs : List (Key × OT)} {ys : List (Key × D)} : xs.map (·.1) = ys.map (·.1) → TZs (xs.map (·.2)) (ys.map (·.2)) → TZ (.dK xs) (.dK ys)
  | dT {xs : List (List Key × OT)} {ys : List (List Key × D)} : xs.map (·.1) = ys.map (·.1) → TZs (xs.map (·.2)) (ys.map (·.2)) → TZ (.dT xs) (.dT ys)
  | ins {C : Addr} {fs : List (Str × OT)} {ds : List D} : TZs (fs.map (·.2)) ds → TZ (.ins C fs) (.obj C ((fs.map (·.1)).zip ds))
inductive TZs : List OT → List D → Prop
  | nil : TZs [] []
  | cons {x : OT} {d : D} {xs : List OT} {ds : List D} : TZ x d → TZs xs ds → TZs (x :: xs) (d :: ds)
end
theorem TZs.maps {α : Type} {f : α → OT} {g : α → D} : ∀ {xs : List α}, (∀ x ∈ xs, TZ (f x) (g x)) → TZs (xs.map f) (xs.map g)
  | [], _ => .nil
  | x :: r, h => .cons (h x (by simp)) (TZs.maps fun y hy => h y (by simp [hy]))
theorem TZs.imms : ∀ ds : List D, TZs (ds.map .imm) ds
  | [] => .nil
  | d :: r => .cons (.imm d) (TZs.imms r)
theorem TZ.oL (ds : List D) : TZ (DL.oL ds) (.lst ds) := .lst (TZs.imms ds)
theorem TZ.dTm {α : Type} {k : α → List Key} {f : α → OT} {g : α → D} {xs : List α} (h : ∀ x ∈ xs, TZ (f x) (g x)) : TZ (.dT (xs.map fun x => (k x, f x))) (.dT (xs.map fun x => (k x, g x))) :=
  .dT (by rw [List.map_map, List.map_map]; rfl) (by rw [List.map_map, List.map_map]; exact TZs.maps h)
theorem TZ.dKm {α : Type} {k : α → Key} {f : α → OT} {g : α → D} {xs : List α} (h : ∀ x ∈ xs, TZ (f x) (g x)) : TZ (.dK (xs.map fun x => (k x, f x))) (.dK (xs.map fun x => (k x, g x))) :=
  .dK (by rw [List.map_map, List.map_map]; rfl) (by rw [List.map_map, List.map_map]; exact TZs.maps h)
def isDc : Option HO → Bool
  | some (.dK _) => true
  | some (.dT _) => true
  | _ => false
/-- what a thing is behind the lock -/
def Zz (o : HO) (x : Option HO) : Prop := if isDc (some o) = true then ∃ ob, x = some (.frz ob o) else x = some o
section
variable {K : PySem.W.Frag} {B B' H : Hp}
mutual
theorem TZ.dr (hb : Same B B') : ∀ {t : OT} {d : D}, TZ t d → ∀ {v : V} {fp : List Addr}, TR K B H t v fp → (∀ p o, p ∈ fp → H p = some o → Zz o (B' p)) → Dr K B' d v
  | _, _, .imm d, _, _, .imm h, _ => h.mono hb
  | _, _, .lst q, _, _, .lst h r, k => .lst (k _ _ (by simp) h) (TZs.dr hb q r fun p o z => k p o (by simp [z]))
  | _, _, .tup q, _, _, .tup h r, k => .tup (.inl (.inl (k _ _ (by simp) h))) (TZs.dr hb q r fun p o z => k p o (by simp [z]))
  | _, _, .dK e q, _, _, .dK h e2 r, k => by
    obtain ⟨ob, z⟩ := k _ _ (by simp) h
    exact .dK z (e2.trans e) (TZs.dr hb q r fun p o z => k p o (by simp [z]))
  | _, _, .dT e q, _, _, .dT h e2 r, k => by
    obtain ⟨ob, z⟩ := k _ _ (by simp) h
    exact .dT z (e2.trans e) (TZs.dr hb q r fun p o z => k p o (by simp [z]))
  | _, _, .ins q, _, _, .ins h e r, k => .obj (k _ _ (by simp) h) (by
    have := DrF.zip (TZs.dr hb q r fun p o z => k p o (by simp [z]))
    rw [e] at this; exact this)
theorem TZs.dr (hb : Same B B') : ∀ {t : List OT} {d : List D}, TZs t d → ∀ {v : List V} {fp : List Addr}, TRs K B H t v fp → (∀ p o, p ∈ fp → H p = some o → Zz o (B' p)) → DrA K B' d v
  | _, _, .nil, _, _, .nil, _ => .nil
  | _, _, .cons q qs, _, _, .cons h r, k => .cons (TZ.dr hb q h fun p o z => k p o (by simp [z])) (TZs.dr hb qs r fun p o z => k p o (by simp [z]))
end
end
section
variable {K : PySem.W.Frag} {env : List Sl} {P : Sl → Prop} {Pp : Post} {w w' w2 : Wd} {en : En} {te td ti tk tv : TE} {tA : TA}
/-- the world behind the lock -/
def Wd.fz (w : Wd) (fp fs : List Addr) (hs : ∀ a ∈ fs, a ∈ fp) (hB : ∀ a ∈ fp, w.B a = none) {H2 : Hp} (f : Fz fs w.H H2) : Wd := ⟨fun a => if a ∈ fp then H2 a else w.B a, H2, fun b x e => by
  by_cases hb : b ∈ fp
  · simpa [hb] using e
  · simp [hb] at e
    rw [f.old b fun z => hb (hs b z)]; exact w.sub b x e, fun b k e => by
  by_cases hb : b ∈ fp
  · simpa [hb] using e
  · simp [hb]
    rw [f.old b fun z => hb (hs b z)] at e; exact w.kt b k e⟩
theorem Own.fz {H0 : Hp} {t : OT} {d : D} {v : V} {fp : List Addr} (h : Own K H0 w' t v fp) (tz : TZ t d) : ∃ fs : List Addr, MutAt w'.H fs ∧ (∀ a ∈ fs, a ∈ fp) ∧ ∀ H2, Fz fs w'.H H2 → ∃ w2 : Wd, w2.H = H2 ∧ Same w'.B w2.B ∧ Dr K w2.B d v ∧ (∀ a, a ∉ fp → w2.B a = w'.B a ∧ w2.H a = w'.H a) := by
  refine ⟨fp.filter fun a => isDc (w'.H a), ⟨h.2.1.filter _, fun a ha => ?_⟩, fun a ha => (List.mem_filter.mp ha).1, fun H2 f => ?_⟩
  · rw [List.mem_filter] at ha
    cases e : w'.H a with
    | none => rw [e] at ha; cases ha.2
    | some u =>
      refine ⟨u, rfl, ?_⟩
      have ha2 := ha.2
      rw [e] at ha2
      cases u with
      | dK _ => trivial
      | dT _ => trivial
      | _ => cases ha2
  · have hB : ∀ a ∈ fp, w'.B a = none := fun a ha => (h.2.2 a ha).2
    have sb : Same w'.B (w'.fz fp _ (fun a ha => (List.mem_filter.mp ha).1) hB f).B := fun b o e => by
      show (if b ∈ fp then H2 b else w'.B b) = some o
      by_cases hb : b ∈ fp
      · rw [hB b hb] at e; cases e
      · rw [if_neg hb]; exact e
    refine ⟨w'.fz fp _ (fun a ha => (List.mem_filter.mp ha).1) hB f, rfl, sb, tz.dr sb h.1 fun p o hp e => ?_, fun a ha => ⟨if_neg ha, f.old a fun z => ha ((List.mem_filter.mp z).1)⟩⟩
    show Zz o (if p ∈ fp then H2 p else w'.B p)
    rw [if_pos hp]
    unfold Zz
    by_cases c : isDc (some o) = true
    · rw [if_pos c]
      obtain ⟨u, ob, e1, e2⟩ := f.new p (List.mem_filter.mpr ⟨hp, by rw [e]; exact c⟩)
      rw [e] at e1
      cases e1
      exact ⟨ob, e2⟩
    · rw [if_neg c, f.old p fun z => c (by have := (List.mem_filter.mp z).2; rw [e] at this; exact this)]
      exact e
/-- a fresh value becomes data -/
theorem ev_fz (h : EvE K te env fun s => ∃ t d, s = .own t ∧ TZ t d ∧ P (.val d)) : EvE K (tFz te) env P := fun en w σ R Q q =>
  h en w σ R _ fun s v w1 e1 h1 r1 => by
    obtain ⟨t, d, rfl, tz, p⟩ := h1
    obtain ⟨fp, own⟩ := r1
    obtain ⟨fs, m, _, k⟩ := Own.fz own tz
    refine ⟨fs, m, fun H2 f => ?_⟩
    obtain ⟨w2, rfl, sb, dr, out⟩ := k H2 f
    have nin : ∀ a o, w.H a = some o → a ∉ fp := fun a o e z => by rw [(own.2.2 a z).1] at e; cases e
    exact q (.val d) v w2 ⟨e1.b.trans sb, fun a o e => by rw [(out a (nin a o e)).2]; exact e1.h a o e, fun a o e => by rw [(out a (nin a o e)).1]; exact e1.f a o e⟩ p dr
/-- a variable's own tree becomes data -/
theorem wp_fz {t : TS} {i : Nat} {ot : OT} {d : D} (e : env[i]? = some (.own ot)) (tz : TZ ot d) (h : Wp K t (env.set i (.val d)) Pp) : Wp K (tFzS t) env Pp := fun en w σ R D hn hb hc hr => by
  obtain ⟨F, R⟩ := R
  have hl : i < env.length := (List.getElem?_eq_some_iff.mp e).1
  obtain ⟨x, h1, v, rfl, own⟩ := R.at e
  obtain ⟨fs, m, _, k⟩ := Own.fz own tz
  refine ⟨fs, m, fun H2 f => ?_⟩
  obtain ⟨w2, rfl, sb, dr, out⟩ := k H2 f
  have nin : ∀ a o, en.w0.H a = some o → a ∉ F i := fun a o e z => by rw [(own.2.2 a z).1] at e; cases e
  have hσ : σ.set i (some v) = σ := by
    apply List.ext_getElem?
    intro j
    rw [List.getElem?_set]
    by_cases hj : i = j
    · subst hj
      have : i < σ.length := by rw [← R.len]; exact hl
      simp [this, h1]
      exact ((List.getElem?_eq_some_iff.mp h1).2).symm
    · simp [hj]
  have := R.upd (w' := w2) (i := i) (s := .val d) (o := some v) (fp := []) ⟨R.le.b.trans sb, fun a o e => by rw [(out a (nin a o e)).2]; exact R.le.h a o e, fun a o e => by rw [(out a (nin a o e)).1]; exact R.le.f a o e⟩
    (fun j s o hj ej z => z.keep sb fun p o' hp q => by
      have np : p ∉ F i := fun z2 => hj (R.ap j i p (List.getElem?_eq_some_iff.mp ej).1 hl hp z2)
      exact ⟨by rw [(out p np).2]; exact q, fun n => by rw [(out p np).1]; exact n⟩) ⟨rfl, v, rfl, dr⟩ (fun _ _ _ _ z => by simp at z)
  rw [hσ] at this
  exact h en w2 σ ⟨_, this⟩ D (hn.back sb) (hb.back sb) (hc.back sb) (hr.back sb)
/-! ### for k in d, d data -/
theorem ei_keysT {b : Bool} {Pd : List D → Prop} (h : EvE K td env fun s => ∃ xs, s = .val (.dT xs) ∧ Pd (xs.map fun p => .kt p.1)) : EvI K b (iKeys td) env Pd := fun en w σ R Q q =>
  h en w σ R _ fun s v w1 e1 h1 r1 => by
    obtain ⟨xs, rfl, p⟩ := h1
    cases r1 with
    | @dT a o _ vs hb ek rs =>
      refine ⟨a, o, rfl, .inr ⟨vs, w1.sub _ _ hb, q _ _ w1 e1 p fun w2 hw => ?_⟩⟩
      have hB : w2.B a = some (.frz o (.dT vs)) := hw.b _ _ hb
      have hl : vs.length = xs.length := by simpa using congrArg List.length ek
      refine ⟨fun i d e => ⟨⟨w2.sub _ _ hB, ?_⟩, fun x H' y => ?_⟩, fun i hi => ⟨w2.sub _ _ hB, by rw [List.length_map] at hi; omega⟩⟩
      · have := (List.getElem?_eq_some_iff.mp e).1
        rw [List.length_map] at this; omega
      · obtain ⟨rfl, k, v, qa, hv, rfl, hq⟩ := y
        rw [List.getElem?_map] at e
        have := congrArg (fun l => l[i]?) ek
        simp only [List.getElem?_map, hv, Option.map_some] at this
        cases hx : xs[i]? with
        | none => rw [hx] at e; cases e
        | some p =>
          rw [hx] at e this
          cases e
          simp only [Option.map_some, Option.some.injEq] at this
          exact ⟨w2, rfl, w2.rfl', .kt (by rw [← this]; exact w2.kt _ _ hq)⟩
theorem ei_keysK {b : Bool} {Pd : List D → Prop} (h : EvE K td env fun s => ∃ xs, s = .val (.dK xs) ∧ Pd (xs.map fun p => keyD p.1)) : EvI K b (iKeys td) env Pd := fun en w σ R Q q =>
  h en w σ R _ fun s v w1 e1 h1 r1 => by
    obtain ⟨xs, rfl, p⟩ := h1
    cases r1 with
    | @dK a o _ vs hb ek rs =>
      refine ⟨a, o, rfl, .inl ⟨vs, w1.sub _ _ hb, q _ _ w1 e1 p fun w2 hw => ?_⟩⟩
      have hB : w2.B a = some (.frz o (.dK vs)) := hw.b _ _ hb
      have hl : vs.length = xs.length := by simpa using congrArg List.length ek
      refine ⟨fun i d e => ⟨⟨w2.sub _ _ hB, ?_⟩, fun x H' y => ?_⟩, fun i hi => ⟨w2.sub _ _ hB, by rw [List.length_map] at hi; omega⟩⟩
      · have := (List.getElem?_eq_some_iff.mp e).1
        rw [List.length_map] at this; omega
      · obtain ⟨rfl, k, v, hv, rfl⟩ := y
        rw [List.getElem?_map] at e
        have := congrArg (fun l => l[i]?) ek
        simp only [List.getElem?_map, hv, Option.map_some] at this
        cases hx : xs[i]? with
        | none => rw [hx] at e; cases e
        | some p =>
          rw [hx] at e this
          cases e
          simp only [Option.map_some, Option.some.injEq] at this
          refine ⟨w2, rfl, w2.rfl', ?_⟩
          show Dr K w2.B (keyD p.1) (kV k)
          rw [← this]
          cases k with
          | inl i => exact .int i
          | inr i => exact .str i
/-! ### tuples as keys, held in names -/
theorem ev_see (h : EvE K te env fun s => ∃ d e, s = .val d ∧ See d e ∧ P (.val e)) : EvE K te env P := fun en w σ R Q q =>
  h en w σ R _ fun s v w1 e1 h1 r1 => by
    obtain ⟨d, e, rfl, se, p⟩ := h1
    exact q (.val e) v w1 e1 p (se.dr r1)
/-- a name that holds a tuple key, read as a tuple -/
theorem x_kt {i : Nat} (h : ∃ k, env[i]? = some (.val (.kt k)) ∧ P (.val (.tup (k.map keyD)))) : EvE K (tVar i) env P := let ⟨k, e, p⟩ := h; ev_see (ev_val e ⟨_, _, rfl, .kt k, p⟩)
theorem ek_val {Pk : List Key → Prop} (h : EvE K te env fun s => ∃ k, s = .val (.kt k) ∧ Pk k) : EvK K te env Pk := fun en w σ R Q q =>
  h en w σ R _ fun s v w1 e1 h1 r1 => by
    obtain ⟨k, rfl, p⟩ := h1
    cases r1 with
    | kt hb => exact q k _ w1 e1 (w1.sub _ _ hb) p
theorem ek_var {i : Nat} {Pk : List Key → Prop} (h : ∃ k, env[i]? = some (.val (.kt k)) ∧ Pk k) : EvK K (tVar i) env Pk := let ⟨k, e, p⟩ := h; ek_val (ev_val e ⟨k, rfl, p⟩)
/-- (a, b) as a key -/
theorem ev_ktup (h : EvV K tA env fun ds => ∃ k : List Key, ds = k.map keyD ∧ k.length ≤ 1000 ∧ P (.val (.kt k))) : EvE K (tTup tA) env P := fun en w σ R Q q =>
  h en w σ R _ fun ss vs w1 e1 h1 r1 => by
    obtain ⟨ds, rfl, k, rfl, hl, p⟩ := h1
    have rd := r1.vals
    have ev := keys_inv rd
    refine ⟨by rw [← rd.len, List.length_map]; exact Nat.le_of_lt (small1000 hl), fun pp hp => ?_⟩
    subst ev
    exact q _ _ (w1.new pp (.tup (k.map kV)) hp) (e1.trans (Wd.le_new hp)) p (.kt upd_same)
/-- d[k], k a tuple -/
theorem ev_dgT (h : EvE K td env fun s => ∃ xs, TdT s xs ∧ EvK K ti env fun k => ∃ c, getO xs k = some c ∧ P (chS c)) : EvE K (tOp rDG td ti) env P := fun en w σ R Q q =>
  h en w σ R _ fun s v w1 e1 h1 r1 => by
    obtain ⟨xs, l, h2⟩ := h1
    exact h2 en w1 σ (R.grow e1) _ fun k b w2 e2 hb p2 => by
      obtain ⟨c, hc, p⟩ := p2
      obtain ⟨a, vs, fp, rfl, g1, g2, g3⟩ := l.tr (r1.grow e2)
      obtain ⟨u, fs, j, e, t, _, _⟩ := dget_ok g2 g3 hc
      exact ⟨a, u, rfl, .inr ⟨vs, k, b, g1, rfl, hb, e.symm⟩, q _ _ w2 (e1.trans e2) p (chS_ok t)⟩
theorem ev_inTT (h : EvV K tA env fun ds => ∃ k : List Key, ds = k.map keyD ∧ k.length ≤ 1000 ∧ EvE K td env fun s => ∃ xs, TdT s xs ∧ P (.val (.bl (getO xs k).isSome))) : EvE K (tOp rDIn (tTup tA) td) env P := ev_inT (ek_tup h)
/-- k in d, k not in d, d[k], d[k] = v for a name k that holds a tuple key -/
theorem ev_inTV {i : Nat} (h : ∃ k, env[i]? = some (.val (.kt k)) ∧ EvE K td env fun s => ∃ xs, TdT s xs ∧ P (.val (.bl (getO xs k).isSome))) : EvE K (tOp rDIn (tVar i) td) env P := ev_inT (ek_var h)
theorem ev_notinTV {i : Nat} (h : ∃ k, env[i]? = some (.val (.kt k)) ∧ EvE K td env fun s => ∃ xs, TdT s xs ∧ P (.val (.bl (!(getO xs k).isSome)))) : EvE K (tOp rDNotIn (tVar i) td) env P := ev_dnotinT (ek_var h)
theorem ev_dgTV {i : Nat} (h : ∃ k, env[i]? = some (.val (.kt k)) ∧ EvE K td env fun s => ∃ xs, TdT s xs ∧ ∃ c, getO xs k = some c ∧ P (chS c)) : EvE K (tOp rDG td (tVar i)) env P :=
  let ⟨k, e, z⟩ := h; ev_dgT (z.imp fun _ ⟨xs, l, z⟩ => ⟨xs, l, ek_var ⟨k, e, z⟩⟩)
theorem getO_imm {κ : Type} [DecidableEq κ] {xs : List (κ × D)} {k : κ} : getO (xs.map fun p => (p.1, OT.imm p.2)) k = (getO xs k).map OT.imm := by
  induction xs with
  | nil => rfl
  | cons p r ih =>
    rw [List.map_cons]
    by_cases e : p.1 = k
    · rw [getO_pos (p := p) e, getO_pos (p := (p.1, OT.imm p.2)) e]; rfl
    · rw [getO_neg (p := p) e, getO_neg (p := (p.1, OT.imm p.2)) e]; exact ih
theorem ev_dgTVd {i j : Nat} (h : ∃ k, env[i]? = some (.val (.kt k)) ∧ ∃ xs : List (List Key × D), env[j]? = some (.val (.dT xs)) ∧ ∃ d, getO xs k = some d ∧ P (.val d)) : EvE K (tOp rDG (tVar j) (tVar i)) env P :=
  let ⟨k, e, xs, e2, d, g, p⟩ := h; ev_dgTV ⟨k, e, ev_val e2 ⟨_, .val, .imm d, by rw [getO_imm, g]; rfl, p⟩⟩
theorem ev_inTVd {i j : Nat} (h : ∃ k, env[i]? = some (.val (.kt k)) ∧ ∃ xs : List (List Key × D), env[j]? = some (.val (.dT xs)) ∧ P (.val (.bl (getO xs k).isSome))) : EvE K (tOp rDIn (tVar i) (tVar j)) env P :=
  let ⟨k, e, xs, e2, p⟩ := h; ev_inTV ⟨k, e, ev_val e2 ⟨_, .val, by rw [getO_imm, Option.isSome_map]; exact p⟩⟩
theorem ev_inTTd {j : Nat} (h : EvV K tA env fun ds => ∃ k : List Key, ds = k.map keyD ∧ k.length ≤ 1000 ∧ ∃ xs : List (List Key × D), env[j]? = some (.val (.dT xs)) ∧ P (.val (.bl (getO xs k).isSome))) : EvE K (tOp rDIn (tTup tA) (tVar j)) env P :=
  ev_inTT (EvA.imp h fun _ ⟨ds, e, k, e1, l, xs, e2, p⟩ => ⟨ds, e, k, e1, l, ev_val e2 ⟨_, .val, by rw [getO_imm, Option.isSome_map]; exact p⟩⟩)
theorem EvN.imp {tb : TE} {Pn Pm : Nat → OT → (OT → OT) → Prop} (h : EvN K tb env Pn) (k : ∀ j s f, Pn j s f → Pm j s f) : EvN K tb env Pm := fun en w σ R Q q => h en w σ R Q fun i t s f vr u w' a b c d e => q i t s f vr u w' a b c d (k i s f e)
theorem en_dTV {i : Nat} {tb : TE} {Pn : Nat → OT → (OT → OT) → Prop} (h : ∃ k, env[i]? = some (.val (.kt k)) ∧ EvN K tb env fun j s f => ∃ xs, s = .dT xs ∧ ∃ c, getO xs k = some c ∧ (∀ l : Nat, xs[l]? = some (k, c) → Pn j c (fun x => f (.dT (xs.set l (k, x)))))) : EvN K (tOp rDG tb (tVar i)) env Pn :=
  let ⟨k, e, z⟩ := h; en_dT (EvN.imp z fun _ _ _ ⟨xs, z1, z2⟩ => ⟨xs, z1, ek_var ⟨k, e, z2⟩⟩)
theorem wp_dputTV {i : Nat} (h : ∃ k, env[i]? = some (.val (.kt k)) ∧ EvE K te env fun s => ∃ t, s = .own t ∧ EvN K td env fun j s f => ∃ xs, s = .dT xs ∧ getO xs k = none ∧ xs.length < 1000000 ∧ Pp.nx (putS env j (f (.dT (xs ++ [(k, t)]))))) : Wp K (tAsg te (gSub td (tVar i) rSetD)) env Pp :=
  let ⟨k, e, z⟩ := h; wp_dputOT (z.imp fun s ⟨t, z, n⟩ => ⟨t, z, EvN.imp n fun _ _ _ ⟨xs, z1, z2⟩ => ⟨xs, z1, ek_var ⟨k, e, z2⟩⟩⟩)
/-! ### {k: v for t in it if test}, the keys tuples, each new -/
inductive OwS : Sl → OT → Prop
  | own (t : OT) : OwS (.own t) t
  | val (d : D) : OwS (.val d) (.imm d)
theorem OwS.tr {s : Sl} {t : OT} {v : V} (h : OwS s t) (r : SlN K w w' s v) : ∃ fp, Own K w.H w' t v fp := by
  cases h with
  | own => exact r
  | val d => exact ⟨[], .imm r, by simp, by simp⟩
theorem ev_dcT {wi : TI} {g : TG} {tt : TT} {vs : List Nat} {Q : Sl → Prop} (Inv : Nat → List (List Key × OT) → Prop) (ys : List D) (hy : ys.length ≤ 1000000) (h : EvI K true wi env fun ds => ds = ys) (h0 : Inv 0 [])
    (hs : ∀ i d acc, ys[i]? = some d → Inv i acc → ∃ us, GD K g d us ∧ (∀ u ∈ us, u.1 ∈ vs) ∧ EvT K tt (sets us (wipeS env vs)) fun b => (b = true → EvK K tk (sets us (wipeS env vs)) fun k => EvE K tv (sets us (wipeS env vs)) fun s => ∃ t, OwS s t ∧ getO acc k = none ∧ Inv (i + 1) (acc ++ [(k, t)])) ∧ (b = false → Inv (i + 1) acc))
    (hd : ∀ acc, Inv ys.length acc → Q (.own (.dT acc))) : EvE K (tDcT wi g tt tk tv vs) env Q := fun en w σ R Q0 q =>
  h en w σ R _ fun J ds w1 e1 hyy it => by
    subst hyy
    intro Dl hD
    refine ⟨fun i m H' => m = ds.length - i ∧ i ≤ ds.length ∧ ∃ (w' : Wd) (acc : List (List Key × OT)) (zs : List (List Key × V)) (f : List Addr), w'.H = H' ∧ w1.le w' ∧ w'.B Dl = none ∧ w'.H Dl = some (.dT zs) ∧ zs.map (·.1) = acc.map (·.1) ∧ TRs K w'.B w'.H (acc.map (·.2)) (zs.map (·.2)) f ∧ (Dl :: f).Nodup ∧ (∀ a ∈ f, w1.H a = none ∧ w'.B a = none) ∧ acc.length ≤ i ∧ Inv i acc,
      ⟨ds.length, by simp, Nat.zero_le _, w1.lay Dl (.dT []) hD, [], [], [], rfl, Wd.le_lay hD, (show w1.B Dl = none from Wd.freeB hD), upd_same, rfl, .nil, by simp, by simp, Nat.le_refl _, h0⟩, ?_⟩
    rintro i m H' ⟨rfl, hi, w', acc, zs, f, rfl, le1, hB, hX, hk, hr, hn, hf, hal, iv⟩
    have itw := it w' le1
    by_cases hlt : i < ds.length
    · right
      obtain ⟨go, yl⟩ := itw.1 i ds[i] (List.getElem?_eq_getElem hlt)
      refine ⟨go, fun H2 => ∃ (w2 : Wd) (acc2 : List (List Key × OT)) (zs2 : List (List Key × V)) (f2 : List Addr), w2.H = H2 ∧ w1.le w2 ∧ w2.B Dl = none ∧ w2.H Dl = some (.dT zs2) ∧ zs2.map (·.1) = acc2.map (·.1) ∧ TRs K w2.B w2.H (acc2.map (·.2)) (zs2.map (·.2)) f2 ∧ (Dl :: f2).Nodup ∧ (∀ a ∈ f2, w1.H a = none ∧ w2.B a = none) ∧ acc2.length ≤ i + 1 ∧ Inv (i + 1) acc2, fun H2 hh => ⟨ds.length - (i + 1), by omega, rfl, hlt, hh⟩, fun x H2 y => ?_⟩
      obtain ⟨w2, rfl, e2, rd⟩ := yl x H2 y
      obtain ⟨us, G, hu, body⟩ := hs i ds[i] acc (List.getElem?_eq_getElem hlt) iv
      refine G.run rd fun gs gv => ⟨by rw [wipe_setv gv hu, wipe_wipe], ?_⟩
      have R2 : Rel K en w2 (sets us (wipeS env vs)) (setv gs (L2.wipe σ vs)) := (((R.grow ((e1.trans le1).trans e2)).wipe vs)).sets gv
      refine body en w2 _ R2 _ fun b w3 e3 p3 => ?_
      cases b with
      | true =>
        rw [if_pos rfl]
        refine p3.1 rfl en w3 _ (R2.grow e3) _ fun k kb w4 e4 hkb p4 => ?_
        refine p4 en w4 _ ((R2.grow e3).grow e4) _ fun s v w5 e5 p5 r5 => ?_
        obtain ⟨t, ow, hnew, iv2⟩ := p5
        obtain ⟨ft, own⟩ := ow.tr r5
        have e25 : w'.le w5 := ((e2.trans e3).trans e4).trans e5
        have hX5 := e25.h _ _ hX
        have hB5 : w5.B Dl = none := (e25.f _ _ hX).trans hB
        have hX4 : w4.H Dl = some (.dT zs) := ((e2.trans e3).trans e4).h _ _ hX
        have nDl : Dl ∉ ft := fun z => by rw [(own.2.2 Dl z).1] at hX4; cases hX4
        have fresh : valV zs k = none := by
          have := dget_some (k := k) hk
          rw [hnew] at this
          simpa using this
        refine ⟨kb, zs, k, rfl, e5.h _ _ hkb, hX5, Nat.lt_of_lt_of_le (by have := congrArg List.length hk; simp at this; omega) (show 1000000 ≤ sizeLine by decide), w5.put Dl (.dT (putK zs k v)) hB5, acc ++ [(k, t)], zs ++ [(k, v)], f ++ (ft ++ []), rfl, ?_, hB5, ?_, ?_, ?_, ?_, ?_, by simp; omega, iv2⟩
        · have e15 := le1.trans e25
          refine ⟨e15.b, fun c o z => ?_, e15.f⟩
          show upd w5.H Dl _ c = some o
          rw [upd_ne (ne_of_none z hD)]
          exact e15.h c o z
        · show upd w5.H Dl _ Dl = _
          rw [upd_same, putK_new _ fresh]
        · simp [hk]
        · rw [List.map_append, List.map_append]
          refine TRs.append (hr.mono e25.b fun a o ha z => ?_) (.cons (own.1.mono (Same.refl _) fun a o ha z => ?_) .nil)
          · show upd w5.H Dl _ a = some o
            rw [upd_ne (fun z => (List.nodup_cons.mp hn).1 (by rw [← z]; exact ha))]
            exact e25.h a o z
          · show upd w5.H Dl _ a = some o
            rw [upd_ne (fun z => nDl (by rw [← z]; exact ha))]
            exact z
        · rw [List.append_nil]
          rw [List.nodup_cons] at hn ⊢
          refine ⟨fun z => ?_, List.nodup_append.mpr ⟨hn.2, own.2.1, fun a ha c hc z => ?_⟩⟩
          · rcases List.mem_append.mp z with z | z
            · exact hn.1 z
            · exact nDl z
          · subst z
            obtain ⟨o, ho⟩ := hr.there a ha
            have := ((e2.trans e3).trans e4).h _ _ ho
            rw [(own.2.2 a hc).1] at this
            cases this
        · intro a ha
          rw [List.append_nil] at ha
          rcases List.mem_append.mp ha with ha | ha
          · obtain ⟨o, ho⟩ := hr.there a ha
            exact ⟨(hf a ha).1, (e25.f a o ho).trans (hf a ha).2⟩
          · exact ⟨(le1.trans ((e2.trans e3).trans e4)).h.free (own.2.2 a ha).1, (own.2.2 a ha).2⟩
      | false =>
        rw [if_neg (by decide)]
        have e23 := e2.trans e3
        exact ⟨w3, acc, zs, f, rfl, le1.trans e23, (e23.f _ _ hX).trans hB, e23.h _ _ hX, hk, hr.mono e23.b fun a o _ z => e23.h a o z, hn, fun a ha => by
          obtain ⟨o, ho⟩ := hr.there a ha
          exact ⟨(hf a ha).1, (e23.f a o ho).trans (hf a ha).2⟩, by omega, p3.2 rfl⟩
    · left
      have e : i = ds.length := by omega
      subst e
      exact ⟨itw.2 _ (Nat.le_refl _), q _ _ w' (e1.trans le1) (hd acc iv) ⟨Dl :: f, .dT hX hk hr, hn, fun a ha => by
        rcases List.mem_cons.mp ha with rfl | ha
        · exact ⟨e1.h.free hD, hB⟩
        · exact ⟨e1.h.free (hf a ha).1, (hf a ha).2⟩⟩⟩
theorem cutD_sub {α : Type} {f : α → D} (xs : List α) (lo hi : Option Int) : ∃ ys : List α, ys.Sublist xs ∧ cutD (xs.map f) lo hi = ys.map f :=
  ⟨(xs.drop (HT.sIx (xs.map f).length 0 lo)).take (HT.sIx (xs.map f).length (xs.map f).length hi - HT.sIx (xs.map f).length 0 lo), (List.take_sublist _ _).trans (List.drop_sublist _ _), by unfold cutD; rw [← List.map_drop, ← List.map_take]⟩
/-! ### comprehensions over what is known by a promise -/
theorem ev_lcP {wi : TI} {g : TG} {te : TE} {tt : TT} {vs : List Nat} {Q : Sl → Prop} {Pd : List D → Prop} (Inv : List D → Nat → List D → Prop) (hy : ∀ ys, Pd ys → ys.length ≤ 1000000) (h : EvI K true wi env Pd) (h0 : ∀ ys, Pd ys → Inv ys 0 [])
    (hs : ∀ ys, Pd ys → ∀ i d acc, ys[i]? = some d → Inv ys i acc → ∃ us, GD K g d us ∧ (∀ u ∈ us, u.1 ∈ vs) ∧ EvT K tt (sets us (wipeS env vs)) fun b => (b = true → EvE K te (sets us (wipeS env vs)) fun s => ∃ y, Frz s y ∧ Inv ys (i + 1) (acc ++ [y])) ∧ (b = false → Inv ys (i + 1) acc))
    (hd : ∀ ys, Pd ys → ∀ acc, Inv ys ys.length acc → Q (.own (oL acc))) : EvE K (tLc wi g tt te vs) env Q := fun en w σ R Q0 q =>
  h en w σ R _ fun J ds w1 e1 hp it => by
    have hy := hy ds hp
    intro Dl hD
    refine ⟨fun i m H' => m = ds.length - i ∧ i ≤ ds.length ∧ ∃ (w' : Wd) (acc : List D) (xs : List V), w'.H = H' ∧ w1.le w' ∧ w'.B Dl = none ∧ w'.H Dl = some (.lst xs) ∧ DrA K w'.B acc xs ∧ acc.length ≤ i ∧ Inv ds i acc,
      ⟨ds.length, by simp, Nat.zero_le _, w1.lay Dl (.lst []) hD, [], [], rfl, Wd.le_lay hD, (show w1.B Dl = none from Wd.freeB hD), upd_same, .nil, Nat.le_refl _, h0 ds hp⟩, ?_⟩
    rintro i m H' ⟨rfl, hi, w', acc, xs, rfl, le1, hB, hX, ra, hal, iv⟩
    have itw := it w' le1
    by_cases hlt : i < ds.length
    · right
      obtain ⟨go, yl⟩ := itw.1 i ds[i] (List.getElem?_eq_getElem hlt)
      refine ⟨go, fun H2 => ∃ (w2 : Wd) (acc2 : List D) (xs2 : List V), w2.H = H2 ∧ w1.le w2 ∧ w2.B Dl = none ∧ w2.H Dl = some (.lst xs2) ∧ DrA K w2.B acc2 xs2 ∧ acc2.length ≤ i + 1 ∧ Inv ds (i + 1) acc2, fun H2 hh => ⟨ds.length - (i + 1), by omega, rfl, hlt, hh⟩, fun x H2 y => ?_⟩
      obtain ⟨w2, rfl, e2, rd⟩ := yl x H2 y
      obtain ⟨us, G, hu, body⟩ := hs ds hp i ds[i] acc (List.getElem?_eq_getElem hlt) iv
      refine G.run rd fun gs gv => ⟨by rw [wipe_setv gv hu, wipe_wipe], ?_⟩
      have R2 : Rel K en w2 (sets us (wipeS env vs)) (setv gs (L2.wipe σ vs)) := (((R.grow ((e1.trans le1).trans e2)).wipe vs)).sets gv
      refine body en w2 _ R2 _ fun b w3 e3 p3 => ?_
      cases b with
      | true =>
        refine ev_frz (P := fun s => ∃ y, s = .val y ∧ Inv ds (i + 1) (acc ++ [y])) ((p3.1 rfl).imp fun s ⟨y, f, z⟩ => ⟨y, f, y, rfl, z⟩) en w3 _ (R2.grow e3) _ fun s v w4 e4 p4 r4 => ?_
        obtain ⟨y, rfl, p4⟩ := p4
        have e24 := (e2.trans e3).trans e4
        have hB4 : w4.B Dl = none := (e24.f _ _ hX).trans hB
        refine ⟨xs, e24.h _ _ hX, Nat.lt_of_lt_of_le (by rw [← ra.len]; omega) (show 1000000 ≤ sizeLine by decide), w4.put Dl (.lst (xs ++ [v])) hB4, acc ++ [y], xs ++ [v], rfl, ?_, hB4, upd_same, (ra.mono e24.b).snoc r4, (by simp; omega), p4⟩
        have e14 := le1.trans e24
        refine ⟨e14.b, fun c o z => ?_, e14.f⟩
        show upd w4.H Dl _ c = some o
        rw [upd_ne (ne_of_none z hD)]
        exact e14.h c o z
      | false =>
        have e23 := e2.trans e3
        exact ⟨w3, acc, xs, rfl, le1.trans e23, (e23.f _ _ hX).trans hB, e23.h _ _ hX, ra.mono e23.b, by omega, p3.2 rfl⟩
    · left
      have e : i = ds.length := by omega
      subst e
      exact ⟨itw.2 _ (Nat.le_refl _), q _ _ w' (e1.trans le1) (hd ds hp acc iv) ⟨[Dl], TR.ofL hX ra, by simp, fun q z => by
        have e : q = Dl := by simpa using z
        subst e
        exact ⟨e1.h.free hD, hB⟩⟩⟩
theorem ev_mapP {α : Type} {wi : TI} {g : TG} {vs : List Nat} {Q : Sl → Prop} {Px : List α → Prop} (enc : α → D) (f : α → D) (h : EvI K true wi env fun ds => ∃ xs, ds = xs.map enc ∧ xs.length ≤ 1000000 ∧ Px xs)
    (hs : ∀ xs, Px xs → ∀ x, x ∈ xs → ∃ us, GD K g (enc x) us ∧ (∀ u ∈ us, u.1 ∈ vs) ∧ EvE K te (sets us (wipeS env vs)) fun s => Frz s (f x)) (p : ∀ xs, Px xs → Q (.own (oL (xs.map f)))) : EvE K (tLc wi g tYes te vs) env Q :=
  ev_lcP (fun ys i acc => ∃ xs : List α, ys = xs.map enc ∧ Px xs ∧ acc = (xs.take i).map f) (fun ys ⟨xs, e, hl, _⟩ => by rw [e, List.length_map]; exact hl) h (fun ys ⟨xs, e, _, hx⟩ => ⟨xs, e, hx, rfl⟩) (fun ys _ i d acc e ha => by
    obtain ⟨xs, rfl, hx, ha⟩ := ha
    obtain ⟨x, hx2, rfl⟩ := enc_at e
    obtain ⟨us, G, hu, he⟩ := hs xs hx x (List.mem_of_getElem? hx2)
    refine ⟨us, G, hu, et_yes ⟨fun _ => he.imp fun s z => ⟨f x, z, xs, rfl, hx, ?_⟩, fun z => by cases z⟩⟩
    rw [ha, List.take_add_one, hx2]; simp) fun ys _ acc ha => by
      obtain ⟨xs, e, hx, ha⟩ := ha
      rw [ha, e, List.length_map, List.take_length]; exact p xs hx
theorem ev_filtP {α : Type} {wi : TI} {g : TG} {tt : TT} {vs : List Nat} {Q : Sl → Prop} {Px : List α → Prop} (enc : α → D) (c : α → Bool) (f : α → D) (h : EvI K true wi env fun ds => ∃ xs, ds = xs.map enc ∧ xs.length ≤ 1000000 ∧ Px xs)
    (hs : ∀ xs, Px xs → ∀ x, x ∈ xs → ∃ us, GD K g (enc x) us ∧ (∀ u ∈ us, u.1 ∈ vs) ∧ EvT K tt (sets us (wipeS env vs)) (fun b => b = c x) ∧ (c x = true → EvE K te (sets us (wipeS env vs)) fun s => Frz s (f x))) (p : ∀ xs, Px xs → Q (.own (oL ((xs.filter c).map f)))) : EvE K (tLc wi g tt te vs) env Q :=
  ev_lcP (fun ys i acc => ∃ xs : List α, ys = xs.map enc ∧ Px xs ∧ acc = ((xs.take i).filter c).map f) (fun ys ⟨xs, e, hl, _⟩ => by rw [e, List.length_map]; exact hl) h (fun ys ⟨xs, e, _, hx⟩ => ⟨xs, e, hx, rfl⟩) (fun ys _ i d acc e ha => by
    obtain ⟨xs, rfl, hx, ha⟩ := ha
    obtain ⟨x, hx2, rfl⟩ := enc_at e
    obtain ⟨us, G, hu, ht, he⟩ := hs xs hx x (List.mem_of_getElem? hx2)
    refine ⟨us, G, hu, ht.imp fun b hb => ⟨fun z => (he (by rw [← hb, z])).imp fun s z2 => ⟨f x, z2, xs, rfl, hx, ?_⟩, fun z => ⟨xs, rfl, hx, ?_⟩⟩⟩
    · rw [ha, List.take_add_one, hx2]; subst hb; simp [z]
    · rw [ha, List.take_add_one, hx2]; subst hb; simp [z]) fun ys _ acc ha => by
      obtain ⟨xs, e, hx, ha⟩ := ha
      rw [ha, e, List.length_map, List.take_length]; exact p xs hx
end
theorem look_relabel {env : Env} : ∀ {names : List (Str × NameKind)} {x : Str}, names.lookup x = some .free →
    (names.map fun (n, k) => if (k == NameKind.free && env.scope.kind == .function && env.kindOf n == some .cell) then (n, NameKind.cell) else (n, k)).lookup x = some .cell ∨
    (names.map fun (n, k) => if (k == NameKind.free && env.scope.kind == .function && env.kindOf n == some .cell) then (n, NameKind.cell) else (n, k)).lookup x = some .free
  | [], _, h => by simp at h
  | (n, k) :: r, x, h => by
    have ih := @look_relabel env r x
    show List.lookup x ((if (k == NameKind.free && env.scope.kind == .function && env.kindOf n == some .cell) = true then (n, NameKind.cell) else (n, k)) :: _) = _ ∨ List.lookup x ((if (k == NameKind.free && env.scope.kind == .function && env.kindOf n == some .cell) = true then (n, NameKind.cell) else (n, k)) :: _) = _
    cases hx : x == n with
    | true =>
      simp only [List.lookup_cons, hx] at h
      cases h
      by_cases hc : (NameKind.free == NameKind.free && env.scope.kind == .function && env.kindOf n == some .cell) = true
      · rw [if_pos hc]; left; simp only [List.lookup_cons, hx]
      · rw [if_neg hc]; right; simp only [List.lookup_cons, hx]
    | false =>
      simp only [List.lookup_cons, hx] at h
      by_cases hc : (k == NameKind.free && env.scope.kind == .function && env.kindOf n == some .cell) = true
      · rw [if_pos hc]; simp only [List.lookup_cons, hx]; exact ih h
      · rw [if_neg hc]; simp only [List.lookup_cons, hx]; exact ih h
/-- a block within a block -/
theorem blkOk_nn {X : Cx} {s : Shared} {H : Hp} {scope1 : Scope} {cl : List (Str × Addr)} {C : Addr} {fp : List Addr} {sc0 scope : Scope} {N : List Str} {own : List (Str × Nat)} (B : BlkOk N sc0 scope own) (nf : ∀ y ∈ scope.names, y.2 = .free → scope1.names.lookup y.1 = some .free) : BlkOk N (X.blk s H scope1 (compEnvC scope1 cl C X.env) fp).env.scope scope own :=
  ⟨B.kind, B.uniq, B.ix, fun y hy e => look_relabel (nf y hy e), B.own⟩
theorem look_rel2 {env : Env} : ∀ {names : List (Str × NameKind)} {x : Str}, names.lookup x = some .cell ∨ names.lookup x = some .free →
    (names.map fun (n, k) => if (k == NameKind.free && env.scope.kind == .function && env.kindOf n == some .cell) then (n, NameKind.cell) else (n, k)).lookup x = some .cell ∨
    (names.map fun (n, k) => if (k == NameKind.free && env.scope.kind == .function && env.kindOf n == some .cell) then (n, NameKind.cell) else (n, k)).lookup x = some .free
  | names, x, .inr h => look_relabel h
  | [], _, .inl h => by simp at h
  | (n, k) :: r, x, .inl h => by
    have ih := @look_rel2 env r x
    show List.lookup x ((if (k == NameKind.free && env.scope.kind == .function && env.kindOf n == some .cell) = true then (n, NameKind.cell) else (n, k)) :: _) = _ ∨ List.lookup x ((if (k == NameKind.free && env.scope.kind == .function && env.kindOf n == some .cell) = true then (n, NameKind.cell) else (n, k)) :: _) = _
    cases hx : x == n with
    | true =>
      simp only [List.lookup_cons, hx] at h
      cases h
      left
      rw [if_neg (by simp)]
      simp only [List.lookup_cons, hx]
    | false =>
      simp only [List.lookup_cons, hx] at h
      by_cases hc : (k == NameKind.free && env.scope.kind == .function && env.kindOf n == some .cell) = true
      · rw [if_pos hc]; simp only [List.lookup_cons, hx]; exact ih (.inl h)
      · rw [if_neg hc]; simp only [List.lookup_cons, hx]; exact ih (.inl h)
/-- a block within a block that may read the outer one's own names -/
theorem blkOk_n2 {X : Cx} {s : Shared} {H : Hp} {scope1 : Scope} {cl : List (Str × Addr)} {C : Addr} {fp : List Addr} {scope : Scope} {N : List Str} {own : List (Str × Nat)} (B : BlkOk N scope1 scope own) : BlkOk N (X.blk s H scope1 (compEnvC scope1 cl C X.env) fp).env.scope scope own :=
  ⟨B.kind, B.uniq, B.ix, fun y hy e => look_rel2 (B.free y hy e), B.own⟩
section
end
end DL

set_option Elab.async false
set_option linter.all false
set_option maxRecDepth 100000
set_option autoImplicit false
namespace DL
open PySem L2
theorem x_lenMt {K : PySem.W.Frag} {P : Sl → Prop} {α : Type} {xs : List α} {f : α → D} (p : P (.val (.int xs.length))) : RaP K (rLenG K) [.val (.tup (xs.map f))] P := ra_lenT (by rw [List.length_map]; exact p)
theorem x_ixMt {K : PySem.W.Frag} {P : Sl → Prop} {α : Type} {enc : α → D} {xs : List α} {x : Int} (h0 : 0 < xs.length) (p : ∀ y, y ∈ xs → P (.val (enc y))) : RvP K (rIx K) (.val (.tup (xs.map enc))) (.val (.int (x % (xs.length : Int)))) P := by
  have m0 : 0 ≤ x % (xs.length : Int) := Int.emod_nonneg _ (by omega)
  have m1 : x % (xs.length : Int) < xs.length := Int.emod_lt_of_pos _ (by omega)
  have e : xs[(x % (xs.length : Int)).toNat]? = some (xs[(x % (xs.length : Int)).toNat]'(by omega)) := List.getElem?_eq_getElem _
  exact x_ixTE m0 ⟨_, e, p _ (List.getElem_mem _)⟩
/-- a list of ints, in any place -/
inductive IlS : Sl → List Int → Prop
  | bor {ks : List Int} : IlS (.bor (ks.map .int)) ks
  | own {ks : List Int} : IlS (.own (oL (ks.map .int))) ks
  | brt {ks : List Int} : IlS (.brt (oL (ks.map .int))) ks
  | val {ks : List Int} : IlS (.val (.lst (ks.map .int))) ks
theorem IlS.td {s : Sl} {ks : List Int} (h : IlS s ks) : ToD s (.lst (ks.map .int)) := by
  cases h with
  | bor => rfl
  | own => exact ⟨_, rfl, rfl⟩
  | brt => exact ⟨_, rfl, rfl⟩
  | val => rfl
theorem x_inI {K : PySem.W.Frag} {P : Sl → Prop} {s : Sl} {k : Int} (h : ∃ ks, IlS s ks ∧ P (.val (.bl (decide (k ∈ ks))))) : RvP K (rInG K) (.val (.int k)) s P := let ⟨_, l, p⟩ := h; d_inI l.td p
theorem x_notInI {K : PySem.W.Frag} {P : Sl → Prop} {s : Sl} {k : Int} (h : ∃ ks, IlS s ks ∧ P (.val (.bl (!decide (k ∈ ks))))) : RvP K (rNotInG K) (.val (.int k)) s P := let ⟨_, l, p⟩ := h; d_notInI l.td p
theorem pl_ILL (hs : List Int) : Pl 1 (.lst (hs.map .int)) := .lst 0 _ fun d hd => by
  obtain ⟨v, _, rfl⟩ := List.mem_map.mp hd
  exact .int _ _
theorem mapI_inj : ∀ {a b : List Int}, a.map D.int = b.map D.int → a = b
  | [], [], _ => rfl
  | [], _ :: _, h => by cases h
  | _ :: _, [], h => by cases h
  | x :: r, y :: t, h => by
    rw [List.map_cons, List.map_cons, List.cons.injEq] at h
    rw [D.int.inj h.1, mapI_inj h.2]
theorem eqD_IL (a b : List Int) : eqD (.lst (a.map .int)) (.lst (b.map .int)) = decide (a = b) := by
  by_cases e : a = b
  · subst e; rw [eqD_self (pl_ILL a)]; simp
  · rw [decide_eq_false e]
    cases q : eqD (.lst (a.map .int)) (.lst (b.map .int)) with
    | false => rfl
    | true => exact (e (mapI_inj (D.lst.inj ((eqD_iff (pl_ILL a) (pl_ILL b)).mp q)))).elim
theorem x_neIL {K : PySem.W.Frag} {P : Sl → Prop} {s t : Sl} (h : ∃ a b, IlS s a ∧ IlS t b ∧ P (.val (.bl (!decide (a = b))))) : RvP K (rNeG K) s t P := let ⟨a, b, l, m, p⟩ := h; d_neD 1 1 l.td m.td (pl_ILL a) (pl_ILL b) (by decide) (by decide) (by rw [eqD_IL]; exact p)
theorem x_eqIL {K : PySem.W.Frag} {P : Sl → Prop} {s t : Sl} (h : ∃ a b, IlS s a ∧ IlS t b ∧ P (.val (.bl (decide (a = b))))) : RvP K (rEqG K) s t P := let ⟨a, b, l, m, p⟩ := h; d_eqD 1 1 l.td m.td (pl_ILL a) (pl_ILL b) (by decide) (by decide) (by rw [eqD_IL]; exact p)
section
variable {K : PySem.W.Frag} {env : List Sl} {P : Sl → Prop} {Pp : Post} {w w' w2 : Wd} {en : En} {te td ti tk tv tx : TE} {tA : TA}
theorem x_ixLL {α : Type} {s : Sl} {enc : α → D} {xs : List α} (h : ∃ x, LsS s (xs.map enc) ∧ xs.getLast? = some x ∧ P (.val (enc x))) : RvP K (rIx K) s (.val (.int (-1))) P := by
  obtain ⟨x, l, e, p⟩ := h
  have hl : xs ≠ [] := fun z => by rw [z] at e; cases e
  have hl2 : 0 < xs.length := List.length_pos_iff.mpr hl
  rw [List.getLast?_eq_getElem?] at e
  refine sixL l (d := enc x) ?_ p
  unfold atI
  rw [show ixN (xs.map enc).length (-1) = some (xs.length - 1) by unfold ixN; rw [List.length_map]; simp; omega]
  show (xs.map enc)[xs.length - 1]? = _
  rw [List.getElem?_map, e]; rfl
/-- d[a, b] = data -/
theorem wp_dputDT (h : EvE K te env fun s => ∃ d, Frz s d ∧ EvN K td env fun i s f => ∃ xs, s = .dT xs ∧ EvK K ti env fun k => xs.length < 1000000 ∧ Pp.nx (putS env i (f (.dT (putO xs k (.imm d)))))) :
    Wp K (tAsg te (gSub td ti rSetD)) env Pp := fun en w σ R D hn _ _ _ =>
  ev_frz (P := fun s => ∃ d, s = .val d ∧ EvN K td env fun i s f => ∃ xs, s = .dT xs ∧ EvK K ti env fun k => xs.length < 1000000 ∧ Pp.nx (putS env i (f (.dT (putO xs k (.imm d)))))) (h.imp fun s2 ⟨d, fz, z⟩ => ⟨d, fz, d, rfl, z⟩) en w σ R _ fun s y w1 e1 p1 r1 => by
    obtain ⟨d, rfl, p⟩ := p1
    exact p en w1 σ (R.grow e1) _ fun i t s f vr u w2 e2 et hv a p => by
      obtain ⟨xs, rfl, p⟩ := p
      exact p en w2 σ (R.grow (e1.trans e2)) _ fun k b w3 e3 hb p3 => by
        obtain ⟨hl, p⟩ := p3
        have a3 := a.mono e3.h
        have R3 := R.grow ((e1.trans e2).trans e3)
        obtain ⟨fs, ts⟩ := R3.nodeTR et hv a3
        have rd : Dr K w3.B d y := Dr.mono (e2.trans e3).b r1
        cases ts with
        | @dT pp _ vs fp hp ek rs =>
          have hlv : vs.length = xs.length := by simpa using congrArg List.length ek
          refine ⟨pp, _, rfl, .inr ⟨vs, k, b, hp, rfl, hb, Nat.lt_of_lt_of_le (by rw [hlv]; exact hl) (by decide), rfl⟩, ?_⟩
          obtain ⟨w4, h4, b4, R4⟩ := R3.write (s' := .dT (putO xs k (.imm d))) (o := .dT vs) (o' := .dT (putK vs k y)) et hv a3 (fun fs ts nd no => by
            cases ts with
            | @dT _ _ vs' fp' hp' ek' rs' =>
              rw [hp] at hp'; cases hp'
              refine ⟨by simp, fun H' q1 q2 => ?_⟩
              have nd' := List.nodup_cons.mp nd
              have rs2 := rs'.mono (H' := H') (Same.refl _) fun q o z1 z2 => q2 q o (fun e => by subst e; exact nd'.1 z1) z2
              obtain ⟨k1, fp2, sb, t2⟩ := put_ok (k := k) rd ek' rs2
              exact ⟨pp :: fp2, .dT q1 k1 t2, List.nodup_cons.mpr ⟨fun z => nd'.1 (sb.subset z), sb.nodup nd'.2⟩, fun q z => by
                have : q ∈ pp :: fp' := by
                  rcases List.mem_cons.mp z with z | z
                  · simp [z]
                  · simp [sb.subset z]
                exact ⟨(no q this).1, (no q this).2, .inl this⟩⟩)
          rw [← h4]
          exact hn w4 σ _ (((e1.trans e2).trans e3).b.trans b4) R4 p
/-- d.get(k, e), keys tuples -/
theorem ev_dget2T (h : EvE K td env fun s => ∃ xs, TdT s xs ∧ EvK K ti env fun k => EvE K tx env fun s3 => (∀ c, getO xs k = some c → P (chS c)) ∧ (getO xs k = none → P s3)) : EvE K (tDGet2 td ti tx) env P := fun en w σ R Q q =>
  h en w σ R _ fun s v w1 e1 p1 r1 => by
    obtain ⟨xs, l, p⟩ := p1
    obtain ⟨a, vs, fp, rfl, h1, h2, h3⟩ := l.tr r1
    refine ⟨a, rfl, .inr ⟨vs, h1⟩, p en w1 σ (R.grow e1) _ fun k b w2 e2 hb p => ?_⟩
    refine p en w2 σ (R.grow (e1.trans e2)) _ fun s3 z w3 e3 p3 r3 => ?_
    have h1' : Rd w3.H a (.dT vs) := h1.elim (fun z => .inl ((e2.trans e3).h _ _ z)) fun ⟨o, z⟩ => .inr ⟨o, (e2.trans e3).h _ _ z⟩
    refine ⟨valV vs k, .inr ⟨vs, k, b, h1', rfl, e3.h _ _ hb, rfl⟩, ?_⟩
    cases hg : getO xs k with
    | some c =>
      have h3' := h3.mono (H' := w3.H) (e2.trans e3).b fun q o _ z => (e2.trans e3).h q o z
      obtain ⟨u, fs, j, e, t, _, _⟩ := dget_ok h2 h3' hg
      rw [e]
      exact q _ _ w3 ((e1.trans e2).trans e3) (p3.1 c hg) (chS_ok t)
    | none =>
      have hn := dget_some (k := k) h2
      rw [hg] at hn
      have : valV vs k = none := by simpa using hn
      rw [this]
      exact q _ _ w3 ((e1.trans e2).trans e3) (p3.2 hg) (r3.back (e1.trans e2))
/-! ### list(d), the keys tuples -/
theorem inv_dT {X : Cx} {pins : List (Addr × Obj)} {σ : L2.St} {H : Hp} {s : Shared} {d : Addr} {kvs : List (List Key × V)} (I : L2.Inv X pins σ H s) (h : Rd H d (.dT kvs)) :
    (d == sysModules) = false ∧ kvs.length ≤ sizeLine ∧ ∃ (es : Array DictEntry) (ep : Nat), s.heap.DictRaw d es ep ∧ es.size = kvs.length ∧
      ∀ (i : Nat) (k : List Key) (v : V), kvs[i]? = some (k, v) → ∃ (en : DictEntry) (q : Addr), es[i]? = some en ∧ en.key = .ref q ∧ H q = some (.tup (k.map kV)) := by
  obtain ⟨z, hs, xs, pr, o, es, ep, ho, hx, hdt, he, _⟩ := (show ObjOk X.prog X.w H s.heap d (.dT kvs) from rd_of I.hok h)
  refine ⟨hs, z, es, ep, ⟨o, ho, hx, hdt⟩, ?_, fun i k v e => ?_⟩
  · have l1 : es.size = xs.length := size_of_entries he
    have l2 : kvs.length = xs.length := Paired.length pr
    omega
  · obtain ⟨b, hb, e1, e2, _⟩ := paired_get pr e
    have q := entry_at he i
    rw [hb] at q
    exact ⟨_, b.2.1, q, rfl, e2⟩
/-- list(d): ps the keys' own tuples -/
def rListDT : List V → Hp → VK → Prop := fun xs H Q => ∃ (a : Addr) (kvs : List (List Key × V)), xs = [.ref a] ∧ Rd H a (.dT kvs) ∧ ∀ p (qs : List Addr), H p = none → Paired (fun (kv : List Key × V) q => H q = some (.tup (kv.1.map kV))) kvs qs → Q (.ref p) (upd H p (.lst (qs.map V.ref)))
theorem paired_of_get {α β : Type} {G : α → β → Prop} : ∀ {l : List α} {m : List β}, l.length = m.length → (∀ (i : Nat) a b, l[i]? = some a → m[i]? = some b → G a b) → Paired G l m
  | [], [], _, _ => .nil
  | a :: l, b :: m, h, k => .cons (k 0 a b rfl rfl) (paired_of_get (by simpa using h) fun i a b e1 e2 => k (i + 1) a b (by simpa using e1) (by simpa using e2))
theorem b_listDT {X : Cx} (hcalm : X.calm = true) : CallR X (.type "list") rListDT := by
  intro pins s σ H xs us Q I r q
  obtain ⟨a, kvs, ex, hd, q⟩ := q
  subst ex
  obtain ⟨u, eu, rx⟩ := vals1 r
  subst eu
  cases rx
  obtain ⟨lo, z, es, ep, hraw, hsz, ent⟩ := inv_dT I hd
  refine PySem.W.kdl_call (PySem.KdlSrc.rawDict lo) (I.ok.hd hcalm) hraw (by rw [hsz]; exact z) fun h' tk acc c' hk hD hacc => ?_
  have key : ∀ (j : Nat) v, acc[j]? = some v → ∃ q, v = Value.ref q ∧ ∀ k x, kvs[j]? = some (k, x) → H q = some (.tup (k.map kV)) := fun j v e => by
    obtain ⟨hi, rfl⟩ := hacc.2 j v e
    have hj : j < kvs.length := by rw [← hsz]; exact hi
    obtain ⟨en, q', h1, h2, h3⟩ := ent j kvs[j].1 kvs[j].2 (List.getElem?_eq_getElem hj)
    rw [Array.getElem?_eq_getElem hi] at h1
    cases h1
    refine ⟨q', h2, fun k x e2 => ?_⟩
    rw [List.getElem?_eq_getElem hj] at e2
    have := Option.some.inj e2
    rw [this] at h3
    exact h3
  let adr : Value → Addr := fun v => match v with | .ref q => q | _ => 0
  have el : acc.toList.length = kvs.length := by rw [Array.length_toList, hacc.1, hsz]
  have hv : Vals ((acc.toList.map adr).map V.ref) acc.toList := by
    refine vals_of_at (by simp) fun j x v h1 h2 => ?_
    rw [List.getElem?_map, List.getElem?_map, h2] at h1
    obtain ⟨q, rfl, _⟩ := key j v (by rw [← Array.getElem?_toList]; exact h2)
    cases h1
    rfl
  have hp : Paired (fun (kv : List Key × V) q => H q = some (.tup (kv.1.map kV))) kvs (acc.toList.map adr) := by
    refine paired_of_get (by rw [List.length_map]; exact el.symm) fun i a b e1 e2 => ?_
    rw [List.getElem?_map] at e2
    cases ha : acc.toList[i]? with
    | none => rw [ha] at e2; cases e2
    | some v =>
      rw [ha] at e2
      obtain ⟨q, rfl, hq⟩ := key i v (by rw [← Array.getElem?_toList]; exact ha)
      cases e2
      exact hq a.1 a.2 e1
  exact ⟨.ref s.heap.objs.size, _, I.laid (t' := tk) hk (Nat.le_refl _)
    (show ObjOk X.prog X.w _ _ _ (.lst ((acc.toList.map adr).map V.ref)) from ⟨by rw [List.length_map, List.length_map, el]; exact z, acc.toList, c', hv, by rw [Array.toArray_toList]; exact hD⟩), rfl, q _ _ (I.hok.fresh (Nat.le_refl _)) hp⟩
theorem dra_kts {w : Wd} {kvs : List (List Key × V)} {qs : List Addr} (h : Paired (fun (kv : List Key × V) q => w.H q = some (.tup (kv.1.map kV))) kvs qs) : DrA K w.B (kvs.map fun p => .kt p.1) (qs.map V.ref) := by
  induction h with
  | nil => exact .nil
  | cons r _ ih => exact .cons (.kt (w.kt _ _ r)) ih
theorem x_listDT {s : Sl} (h : ∃ xs, TdT s xs ∧ P (.own (oL (xs.map fun p => .kt p.1)))) : RaP K rListDT [s] P := fun w wx vs e r Q q => by
  obtain ⟨xs, l, p⟩ := h
  cases r with
  | cons r t =>
    cases t
    obtain ⟨a, vs, fp, rfl, h1, h2, h3⟩ := l.tr r
    refine ⟨a, vs, rfl, h1, fun l qs hl hp => q _ _ (wx.lay l _ hl) (Wd.le_lay hl) p ?_⟩
    have : (xs.map fun p => D.kt p.1) = (vs.map fun p => D.kt p.1) := by
      have := congrArg (List.map D.kt) h2
      rw [List.map_map, List.map_map] at this
      exact this.symm
    rw [this]
    exact own_new e hl (dra_kts hp)
/-! ### a list of tuple keys, read as a list of tuples; sorted -/
theorem See.drA {B : Hp} : ∀ {ks : List (List Key)} {vs : List V}, DrA K B (ks.map .kt) vs → DrA K B (ks.map fun k => .tup (k.map keyD)) vs
  | [], _, h => by cases h; exact .nil
  | k :: r, _, h => by cases h with | cons a b => exact .cons ((See.kt k).dr a) (See.drA b)
abbrev ktP (p : Int × Int) : D := .kt [.inl p.1, .inl p.2]
theorem drk_inv {B : Hp} {ps : List (Int × Int)} {xs : List V} (h : DrA K B (ps.map ktP) xs) : ∀ x ∈ xs, ∃ p ∈ ps, Dr K B (ktP p) x := by
  induction ps generalizing xs with
  | nil => cases h; intro x hx; cases hx
  | cons p r ih =>
    cases h with
    | cons a b =>
      intro x hx
      rcases List.mem_cons.mp hx with rfl | hx
      · exact ⟨p, by simp, a⟩
      · obtain ⟨p', m, z⟩ := ih b x hx
        exact ⟨p', by simp [m], z⟩
theorem drk_map {B : Hp} {k : V → Int × Int} : ∀ {ps : List (Int × Int)} {xs : List V}, DrA K B (ps.map ktP) xs → (∀ x p, Dr K B (ktP p) x → k x = p) → xs.map k = ps
  | [], _, h, _ => by cases h; rfl
  | p :: r, _, h, z => by
    cases h with
    | cons a b => rw [List.map_cons, z _ _ a, drk_map b z]
theorem drk_of {B : Hp} {k : V → Int × Int} : ∀ {ys : List V}, (∀ y ∈ ys, Dr K B (ktP (k y)) y) → DrA K B ((ys.map k).map ktP) ys
  | [], _ => .nil
  | y :: r, h => .cons (h y (by simp)) (drk_of fun z hz => h z (by simp [hz]))
theorem ktP_enc {B : Hp} {p : Int × Int} {x : V} (h : Dr K B (ktP p) x) : Dr K B (encP p) x := (See.kt _).dr h
/-- sorted of tuple keys (pairs of ints) -/
theorem ra_sortKP {s : Sl} {ps : List (Int × Int)} (l : LsS s (ps.map ktP)) (p : ∀ ms : List (Int × Int), ms.Perm ps → ms.Pairwise leP → P (.own (oL (ms.map ktP)))) : RaP K (rSortPT K) [s] P := fun w wx vs e r Q q => by
  cases r with
  | cons r t =>
    cases t
    obtain ⟨a, xs, rfl, h1, h2⟩ := l.ok r
    refine ⟨a, xs, rfl, h1, fun x hx => ?_, fun k ys lo kis pm srt hlo => ?_⟩
    · obtain ⟨p, _, z⟩ := drk_inv h2 x hx
      obtain ⟨t, e1, e2⟩ := encP_inv (ktP_enc z)
      exact ⟨p, t, e1, sameT wx.sub e2⟩
    · have kd : ∀ x p, Dr K wx.B (ktP p) x → k x = p := fun x p z => by
        obtain ⟨t, e1, e2⟩ := encP_inv (ktP_enc z)
        exact kis x p ⟨t, e1, sameT wx.sub e2⟩
      have dys : DrA K wx.B ((ys.map k).map ktP) ys := drk_of fun y hy => by
        obtain ⟨p, _, z⟩ := drk_inv h2 y (pm.mem_iff.mp hy)
        rw [kd y p z]; exact z
      have pm2 : (ys.map k).Perm ps := by
        have := pm.map k
        rw [drk_map h2 kd] at this
        exact this
      exact q _ _ (wx.lay lo _ hlo) (Wd.le_lay hlo) (p _ pm2 (List.pairwise_map.mpr srt)) (own_new e hlo dys)
/-! ### displayed keys, the dict data -/
theorem ev_dgTTd {j : Nat} (h : ∃ xs : List (List Key × D), env[j]? = some (.val (.dT xs)) ∧ EvV K tA env fun ds => ∃ k : List Key, ds = k.map keyD ∧ k.length ≤ 1000 ∧ ∃ d, getO xs k = some d ∧ P (.val d)) : EvE K (tOp rDG (tVar j) (tTup tA)) env P :=
  let ⟨xs, e2, h⟩ := h; ev_dgT (ev_val e2 ⟨_, .val, ek_tup (EvA.imp h fun _ ⟨ds, e, k, e1, l, d, g, p⟩ => ⟨ds, e, k, e1, l, .imm d, by rw [getO_imm, g]; rfl, p⟩)⟩)
theorem ev_notinTTd {j : Nat} (h : ∃ xs : List (List Key × D), env[j]? = some (.val (.dT xs)) ∧ EvV K tA env fun ds => ∃ k : List Key, ds = k.map keyD ∧ k.length ≤ 1000 ∧ P (.val (.bl (!(getO xs k).isSome)))) : EvE K (tOp rDNotIn (tTup tA) (tVar j)) env P :=
  let ⟨xs, e2, h⟩ := h; ev_dnotinT (ek_tup (EvA.imp h fun _ ⟨ds, e, k, e1, l, p⟩ => ⟨ds, e, k, e1, l, ev_val e2 ⟨_, .val, by rw [getO_imm, Option.isSome_map]; exact p⟩⟩))
theorem ev_inTTd2 {j : Nat} (h : ∃ xs : List (List Key × D), env[j]? = some (.val (.dT xs)) ∧ EvV K tA env fun ds => ∃ k : List Key, ds = k.map keyD ∧ k.length ≤ 1000 ∧ P (.val (.bl (getO xs k).isSome))) : EvE K (tOp rDIn (tTup tA) (tVar j)) env P :=
  let ⟨xs, e2, h⟩ := h; ev_inTT (EvA.imp h fun _ ⟨ds, e, k, e1, l, p⟩ => ⟨ds, e, k, e1, l, ev_val e2 ⟨_, .val, by rw [getO_imm, Option.isSome_map]; exact p⟩⟩)
/-! ### {k: v} -/
theorem ev_disp1 (h : EvE K tk env fun s1 => EvE K tv env fun s2 => ∃ k d, s1 = .val (keyD k) ∧ s2 = .val d ∧ P (.own (.dK [(k, .imm d)]))) : EvE K (tDisp [(tk, tv)]) env P := fun en w σ R Q q p hp => by
  have le0 : w.le (w.lay p (.dK []) hp) := Wd.le_lay (o := .dK []) hp
  refine h en (w.lay p (.dK []) hp) σ (R.grow le0) _ fun s1 x w1 e1 h1 r1 => h1 en w1 σ ((R.grow le0).grow e1) _ fun s2 y w2 e2 h2 r2 => ?_
  obtain ⟨k, d, rfl, rfl, hP⟩ := h2
  have := keyD_v r1
  subst this
  have e02 := e1.trans e2
  have hpH : w2.H p = some (.dK []) := e02.h p _ upd_same
  have hpB : w2.B p = none := (e02.f p _ upd_same).trans (show w.B p = none from Wd.freeB hp)
  refine ⟨hpH, [(k, y)], rfl, by simp, ?_⟩
  have eput : mergeK [] [(k, y)] = [(k, y)] := rfl
  rw [eput]
  have le2 := le0.trans e02
  refine q (.own (.dK [(k, .imm d)])) (.ref p) (w2.put p (.dK [(k, y)]) hpB) ⟨le2.b, fun c o z => ?_, le2.f⟩ hP ⟨[p], ?_, by simp, fun a ha => ?_⟩
  · show upd w2.H p _ c = some o
    rw [upd_ne (ne_of_none z hp)]
    exact le2.h c o z
  · exact .dK (vs := [(k, y)]) upd_same rfl (.cons (.imm r2) .nil)
  · have : a = p := by simpa using ha
    subst this
    exact ⟨hp, hpB⟩
/-! ### xs.extend(ys) -/
theorem wp_extN {te tr : TE} {Pp : Post} (h : EvN K tr env fun i s f => ∃ xs, s = .lst xs ∧ EvE K te env fun s2 => ∃ es, Frz s2 (.lst es) ∧ xs.length + es.length ≤ 1000000 ∧ Pp.nx (putS env i (f (.lst (xs ++ es.map .imm))))) :
    Wp K (tDrop (tBM K "list" rExtend tr (tCons te tNil))) env Pp := fun en w σ R D hn _ _ _ =>
  h en w σ R _ fun i t s f vr u w1 e1 et hv a p => by
    obtain ⟨xs, rfl, p⟩ := p
    have R1 := R.grow e1
    obtain ⟨fs, ts⟩ := R1.nodeTR et hv a
    cases ts with
    | @lst pp _ vs fp hp rs =>
      refine ⟨.inl ⟨rfl, _, .inl (.inl hp)⟩, ?_⟩
      exact ev_frz (P := fun s2 => ∃ es, s2 = .val (.lst es) ∧ xs.length + es.length ≤ 1000000 ∧ Pp.nx (putS env i (f (.lst (xs ++ es.map .imm))))) (p.imp fun s2 ⟨es, fz, z⟩ => ⟨_, fz, es, rfl, z⟩) en w1 σ R1 _ fun s2 y w2 e2 p2 r2 => by
        obtain ⟨es, rfl, hl, p⟩ := p2
        cases r2 with
        | @lst b zs _ hbB rz =>
        have a2 := a.mono e2.h
        have R2 := R1.grow e2
        have hp2 := e2.h _ _ hp
        have hb2 := w2.sub _ _ hbB
        refine ⟨pp, b, vs, zs, rfl, rfl, hp2, hb2, Nat.le_trans (by rw [← rs.len, ← rz.len]; exact hl) (show 1000000 ≤ sizeLine by decide), ?_⟩
        obtain ⟨w3, h3, b3, R3⟩ := R2.write (s' := .lst (xs ++ es.map .imm)) (o := .lst vs) (o' := .lst (vs ++ zs)) et hv a2 (fun fs ts nd no => by
          cases ts with
          | @lst _ _ vs' fp' hp' rs' =>
            rw [hp2] at hp'; cases hp'
            refine ⟨by simp, fun H' q1 q2 => ⟨pp :: (fp' ++ []), .lst q1 ((rs'.mono (Same.refl _) fun q o z1 z2 => q2 q o (fun e => by
                subst e; exact (List.nodup_cons.mp nd).1 z1) z2).append (TRs.imms rz)), by simpa using nd, fun q z => ?_⟩⟩
            have : q ∈ pp :: fp' := by simpa using z
            exact ⟨(no q this).1, (no q this).2, .inl this⟩)
        rw [← h3]
        exact hn w3 σ _ ((e1.trans e2).b.trans b3) R3 p
/-- xs.extend(e), a flat list of one's own -/
theorem x_ext {i : Nat} {te : TE} {Pp : Post} (h : ∃ ds, env[i]? = some (.own (oL ds)) ∧ EvE K te env fun s => ∃ es, Frz s (.lst es) ∧ ds.length + es.length ≤ 1000000 ∧ Pp.nx (env.set i (.own (oL (ds ++ es))))) :
    Wp K (tDrop (tBM K "list" rExtend (tVar i) (tCons te tNil))) env Pp :=
  let ⟨ds, e, h⟩ := h
  wp_extN (en_var (.inl e) ⟨ds.map .imm, rfl, h.imp fun s ⟨es, f, hl, p⟩ => ⟨es, f, by simpa using hl, by
    show Pp.nx (putS env i (.lst (ds.map .imm ++ es.map .imm)))
    rw [← List.map_append]
    rw [putS_own e]; exact p⟩⟩)
end
end DL

set_option Elab.async false
set_option linter.all false
set_option maxRecDepth 100000
set_option autoImplicit false
set_option maxHeartbeats 400000
namespace DL
open PySem L2
/-! ### operators of own classes -/
/-- a ∘ b by the class's own method, both instances of it -/
def rOwn2 (C : Addr) (sp : Sp) : R2 := fun x y H Q => ∃ a dx fs b dx2 fs2, x = .ref a ∧ H a = some (.ins C dx fs) ∧ y = .ref b ∧ H b = some (.ins C dx2 fs2) ∧ sp [x, y] H Q E0
def rOwn1 (C : Addr) (sp : Sp) : V → Hp → VK → Prop := fun x H Q => ∃ a dx fs, x = .ref a ∧ H a = some (.ins C dx fs) ∧ sp [x] H Q E0
section
variable {X : Cx} {C : Addr} {m : Str} {k : Nat} {ps : List Str} {sp : Sp}
theorem cmp_back {pins : List (Addr × Obj)} {σ : St} {Q : VK} {v : Value} {s' : Shared} (h : EP X pins σ Q v s') : PySem.W.CmpBack (EP X pins σ Q) v s' := by
  obtain ⟨x, H', I, r, q⟩ := h
  cases v <;> first
    | exact ⟨x, H', I, r, q⟩
    | (cases x <;> first | (cases r; done) | (obtain ⟨t, e⟩ := r; cases e))
theorem op_own2 {op : Operator} (G : CalE X.prog X.w X.K X.mg X.base C m k ps sp) (sf : PySem.W.selfFirst X.K C = true) (hr : Room k X.A) (hm : PySem.dunder op.info.2 = m := by rfl) : OpR X (binaryOp op) (rOwn2 C sp) := by
  intro pins s σ H x y v u Q I rx ry h
  obtain ⟨f, fd, c, M, F, hb⟩ := G.ex
  obtain ⟨a, dx, fs, b, dx2, fs2, rfl, ha, rfl, hb2, q⟩ := h
  obtain rfl : v = Value.ref a := rx
  obtain rfl : u = Value.ref b := ry
  obtain ⟨mA, J, _⟩ := ins_get I.hok ha
  obtain ⟨od, J, _⟩ := J.look
  obtain ⟨mB, J2, _⟩ := ins_get I.hok hb2
  obtain ⟨od2, J2, _⟩ := J2.look
  obtain ⟨m', hF⟩ := I.fr
  refine PySem.W.binop_K hF I.ok.mod.kin J J2.type sf (hm ▸ M.at_) M.fn ?_
  exact wpAny_mono (run_fn (us := [.ref a, .ref b]) (vs := [.ref a, .ref b]) F hr hb .nil pass0 I (.cons rfl (.cons rfl .nil)) (by simpa using q)) (fun v s' z => cmp_back z) fun _ _ z => z
theorem un_own {pq : m = "__neg__"} (G : CalE X.prog X.w X.K X.mg X.base C m k ps sp) (hr : Room k X.A) : UnR X (unaryOp .USub) (rOwn1 C sp) := by
  intro pins s σ H x v Q I rx h
  obtain ⟨f, fd, c, M, F, hb⟩ := G.ex
  obtain ⟨a, dx, fs, rfl, ha, q⟩ := h
  obtain rfl : v = Value.ref a := rx
  obtain ⟨mA, J, _⟩ := ins_get I.hok ha
  obtain ⟨od, J, _⟩ := J.look
  obtain ⟨m', hF⟩ := I.fr
  refine PySem.W.ksp_neg hF I.ok.mod.kin J (pq ▸ M.at_) M.fn ?_
  exact run_fn (us := [.ref a]) (vs := [.ref a]) F hr hb .nil pass0 I (.cons rfl .nil) (by simpa using q)
theorem eq_own (hu : X.A.units + 64 < cLine) {pq : m = (cmpInfo .Eq).2.1} (G : CalE X.prog X.w X.K X.mg X.base C m k ps sp) (nf : PySem.W.notFirst X.K C (.ref C) = true) (hr : Room k X.A) : OpR X (compareOp .Eq) (rOwn2 C sp) := by
  intro pins s σ H x y v u Q I rx ry h
  obtain ⟨f, fd, c, M, F, hb⟩ := G.ex
  obtain ⟨a, dx, fs, b, dx2, fs2, rfl, ha, rfl, hb2, q⟩ := h
  obtain rfl : v = Value.ref a := rx
  obtain rfl : u = Value.ref b := ry
  obtain ⟨mA, J, _⟩ := ins_get I.hok ha
  obtain ⟨od, J, _⟩ := J.look
  obtain ⟨mB, J2, _⟩ := ins_get I.hok hb2
  obtain ⟨od2, J2, _⟩ := J2.look
  obtain ⟨m', hF⟩ := I.fr
  have hu2 : X.A.units < cLine := Nat.lt_of_le_of_lt (Nat.le_add_right _ _) hu
  have at2 := M.at_
  rw [pq] at at2
  show wpAny (model X.prog X.w) X.A (richCompare .Eq (.ref a) (.ref b)) (EP X pins σ Q) X.xe s
  refine PySem.W.cmp_K (op := .Eq) hu2 hF I.ok.mod.kin J J2.type nf at2 M.fn ?_
  exact wpAny_mono (run_fn (us := [.ref a, .ref b]) (vs := [.ref a, .ref b]) F hr hb .nil pass0 I (.cons rfl (.cons rfl .nil)) (by simpa using q)) (fun v s' z => cmp_back z) fun _ _ z => z
end
section
variable {K : PySem.W.Frag} {P : Sl → Prop} {C : Addr} {S : SpD} {f1 f2 : List (Str × D)} {w w' : Wd}
theorem obj_at {v : V} (r : SlN K w w' (.val (.obj C f1)) v) : ∃ a dx gs, v = .ref a ∧ w'.H a = some (.ins C dx gs) := by
  have r : Dr K w'.B (.obj C f1) v := r
  cases r with
  | obj hb _ => exact ⟨_, _, _, rfl, w'.sub _ _ hb⟩
theorem rv_own2 (h : S [.val (.obj C f1), .val (.obj C f2)] P) : RvP K (rOwn2 C (spD K S)) (.val (.obj C f1)) (.val (.obj C f2)) P := fun w wx x y e r1 r2 Q q => by
  obtain ⟨a, dx, gs, ex, ha⟩ := obj_at r1
  obtain ⟨b, dx2, gs2, ey, hb⟩ := obj_at r2
  refine ⟨a, dx, gs, b, dx2, gs2, ex, ha, ey, hb, ?_⟩
  have rr : SlA K w wx [.val (.obj C f1), .val (.obj C f2)] [x, y] := .cons r1 (.cons r2 .nil)
  obtain ⟨hl, hk⟩ := coA (us := [x, y]) (.cons .val (.cons .val .nil)) rr
  exact ⟨⟨wx, [x, y]⟩, wx, [.val (.obj C f1), .val (.obj C f2)], fun s _ => P s, rfl, rfl, ⟨fun _ => [], wx.rfl', by simp, by simp, fun i t o a b => hk i t o a b i, fun i j p _ _ z => by simp at z⟩, by simpa using h, fun s v w' as' st _ R' z => q s v w' R'.le z ((Rel.last st R').back e)⟩
theorem ru_own1 (h : S [.val (.obj C f1)] P) : RuP K (rOwn1 C (spD K S)) (.val (.obj C f1)) P := fun w wx x e r1 Q q => by
  obtain ⟨a, dx, gs, ex, ha⟩ := obj_at r1
  refine ⟨a, dx, gs, ex, ha, ?_⟩
  have rr : SlA K w wx [.val (.obj C f1)] [x] := .cons r1 .nil
  obtain ⟨hl, hk⟩ := coA (us := [x]) (.cons .val .nil) rr
  exact ⟨⟨wx, [x]⟩, wx, [.val (.obj C f1)], fun s _ => P s, rfl, rfl, ⟨fun _ => [], wx.rfl', by simp, by simp, fun i t o a b => hk i t o a b i, fun i j p _ _ z => by simp at z⟩, by simpa using h, fun s v w' as' st _ R' z => q s v w' R'.le z ((Rel.last st R').back e)⟩
/-- an instance with one field of data -/
theorem frz_ins1 {f : Str} {d : D} : Frz (.own (.ins C [(f, .imm d)])) (.obj C [(f, d)]) := .tree (TD.ins (fs := [(f, OT.imm d)]) (ds := [d]) (.cons (.imm d) .nil))
end
/-! ### tuple keys within data, read as tuples -/
mutual
def unk : D → D
  | .kt k => .tup (k.map keyD)
  | .tup ds => .tup (unks ds)
  | .lst ds => .lst (unks ds)
  | d => d
def unks : List D → List D
  | [] => []
  | d :: r => unk d :: unks r
end
section
variable {K : PySem.W.Frag} {B : Hp}
mutual
theorem unk_dr : ∀ {d : D} {v : V}, Dr K B d v → Dr K B (unk d) v
  | _, _, .non => .non
  | _, _, .bl b => .bl b
  | _, _, .int i => .int i
  | _, _, .str x => .str x
  | _, _, .lst h r => .lst h (unks_dr r)
  | _, _, .tup h r => .tup h (unks_dr r)
  | _, _, .obj h r => .obj h r
  | _, _, .ref a => .ref a
  | _, _, .ty n => .ty n
  | _, _, .kt h => .tup (.inl (.inl h)) (dra_keys _)
  | _, _, .dK h q r => .dK h q r
  | _, _, .dT h q r => .dT h q r
  | _, _, .exc h r => .exc h r
theorem unks_dr : ∀ {ds : List D} {vs : List V}, DrA K B ds vs → DrA K B (unks ds) vs
  | _, _, .nil => .nil
  | _, _, .cons h r => .cons (unk_dr h) (unks_dr r)
end
theorem unks_map {α : Type} {f g : α → D} (h : ∀ a, unk (f a) = g a) : ∀ l : List α, unks (l.map f) = l.map g
  | [] => rfl
  | a :: r => by rw [List.map_cons, List.map_cons, unks, h, unks_map h r]
end
/-- a slot's data read otherwise -/
inductive SeS : Sl → Sl → Prop
  | same {s : Sl} : SeS s s
  | val {d : D} : SeS (.val d) (.val (unk d))
  | bor {ds : List D} : SeS (.bor ds) (.bor (unks ds))
section
variable {K : PySem.W.Frag} {w w' : Wd} {P : Sl → Prop}
theorem SeS.ok {s t : Sl} {v : V} (h : SeS s t) (r : SlN K w w' s v) : SlN K w w' t v := by
  cases h with
  | same => exact r
  | val => exact unk_dr r
  | bor => obtain ⟨p, xs, e, h, d⟩ := r; exact ⟨p, xs, e, h, unks_dr d⟩
theorem rv_see {r : R2} {s1 s2 t1 t2 : Sl} (a : SeS s1 t1) (b : SeS s2 t2) (h : RvP K r t1 t2 P) : RvP K r s1 s2 P := fun w wx x y e r1 r2 Q q => h w wx x y e (a.ok r1) (b.ok r2) Q q
theorem ra_see {r : List V → Hp → VK → Prop} {s t : Sl} (a : SeS s t) (h : RaP K r [t] P) : RaP K r [s] P := fun w wx vs e r1 Q q => by
  cases r1 with
  | cons r1 t1 => cases t1; exact h w wx _ e (.cons (a.ok r1) .nil) Q q
theorem ra_see2 {r : List V → Hp → VK → Prop} {s t u : Sl} (a : SeS s t) (h : RaP K r [t, u] P) : RaP K r [s, u] P := fun w wx vs e r1 Q q => by
  cases r1 with
  | cons r1 t1 => exact h w wx _ e (.cons (a.ok r1) t1) Q q
end
end DL

set_option Elab.async false
set_option linter.all false
set_option maxRecDepth 100000
set_option autoImplicit false
set_option maxHeartbeats 400000
namespace DL
open PySem L2 PySem.Spec PyProof.Rows
open PySem.W (EachIs dataLe dataLt sortLe TotalLe sortLe_total keyToks keyToksAll)
/-! ### sorted of pairs of a text and a whole number, any number of them -/
abbrev As := Str × Int
def asPy (a : As) : PyData := .tuple [.str a.1, .int a.2]
def leA : As → As → Bool := dataLe false asPy
theorem leA_total : TotalLe leA := (sortLe_total (listOrd itemOrd) false fun b => keyToks (asPy b) : TotalLe (sortLe (listOrd itemOrd) false fun b => keyToks (asPy b)))
theorem leA_anti {a b : As} (h1 : leA a b = true) (h2 : leA b a = true) : a = b := by
  have h1 : (!dataLt (asPy b) (asPy a)) = true := h1
  have h2 : (!dataLt (asPy a) (asPy b)) = true := h2
  rw [Bool.not_eq_true'] at h1 h2
  have e := PyProof.Rows.lex_total (O := itemOrd) (keyToks (asPy b)) (keyToks (asPy a)) h1 h2
  obtain ⟨a1, a2⟩ := a
  obtain ⟨b1, b2⟩ := b
  simp only [asPy, keyToks, keyToksAll, List.cons_append, List.nil_append, List.cons.injEq, Sum.inr.injEq, Sum.inl.injEq, and_true, true_and] at e
  exact Prod.ext (PySem.W.str_of_cps e.1.symm) e.2.symm
def srtA (l : List As) : List As := l.mergeSort leA
theorem srtA_perm (l : List As) : (srtA l).Perm l := List.mergeSort_perm _ _
theorem srtA_pw (l : List As) : (srtA l).Pairwise fun a b => leA a b = true := PySem.W.sort_pairwise leA_total l
theorem srtA_eq {l m : List As} (h : l.Perm m) : srtA l = srtA m :=
  ((srtA_perm l).trans (h.trans (srtA_perm m).symm)).eq_of_pairwise (le := fun a b => leA a b = true) (fun a b _ _ h1 h2 => leA_anti h1 h2) (srtA_pw l) (srtA_pw m)
theorem srtA_len (l : List As) : (srtA l).length = l.length := (srtA_perm l).length_eq
def rSortA (K : PySem.W.Frag) : List V → Hp → VK → Prop := fun vs H Q => ∃ (a : Addr) (xs : List V) (bs : List As) (R : V → As → Prop), vs = [V.ref a] ∧ SqL K H a xs ∧ EachIs R xs bs ∧
  (∀ x b, R x b → ∃ t, x = V.ref t ∧ SqT K H t [.str b.1, .int b.2]) ∧ ∀ ys l, EachIs R ys (srtA bs) → H l = none → Q (.ref l) (upd H l (.lst ys))
theorem each_val {R : V → As → Prop} : ∀ {xs : List Value} {bs : List As}, EachIs R (xs.map backV) bs → (∀ u ∈ xs, ∃ t, u = Value.ref t) → EachIs (fun v b => R (backV v) b ∧ ∃ t, v = Value.ref t) xs bs
  | [], _, .nil, _ => .nil
  | u :: r, _, .cons h t, z => .cons ⟨h, z u (by simp)⟩ (each_val t fun x hx => z x (by simp [hx]))
theorem each_back {R : V → As → Prop} : ∀ {xs : List Value} {bs : List As}, EachIs (fun v b => R (backV v) b ∧ ∃ t, v = Value.ref t) xs bs → EachIs R (xs.map backV) bs ∧ ∀ u ∈ xs, ∃ t, u = Value.ref t
  | [], _, .nil => ⟨.nil, fun u h => nomatch h⟩
  | u :: r, _, .cons h t => by
    obtain ⟨a, b⟩ := each_back t
    refine ⟨.cons h.1 a, fun x hx => ?_⟩
    rcases List.mem_cons.mp hx with rfl | hx
    · exact h.2
    · exact b x hx
theorem g_sortA {X : Cx} (hu : X.A.units + 64 < cLine) : CallR X (.builtin "sorted") (rSortA X.K) := by
  intro pins s σ H vs us Q I r h
  obtain ⟨a, xs, bs, R, rfl, hs, hR, hT, q⟩ := h
  obtain ⟨its, rv, hl, hz⟩ := I.list hs
  obtain ⟨u, rfl, ru⟩ := vals1 r
  obtain rfl : u = Value.ref a := ru
  have hx : ∀ x ∈ xs, ∃ t, x = V.ref t := fun x hx => by
    obtain ⟨b, _, z⟩ := hR.left x hx
    obtain ⟨t, e, _⟩ := hT x b z
    exact ⟨t, e⟩
  obtain ⟨e1, e2⟩ := refs_back rv hx
  rw [e1] at hR
  have ev := each_val hR e2
  have lb : bs.length = its.length := ev.length.symm ▸ rfl
  have big : bs.length ≤ sizeLine := by rw [lb, ← rv.length]; exact hz
  refine PySem.W.sorted_data (R := fun v b => R (backV v) b ∧ ∃ t, v = Value.ref t) (enc := asPy) hl.isList ev (ev.mono fun v b hv => ?er) ?hal (.inl ?hk) big (fun b _ => ?hu) fun out ho eo => ?fin
  case er =>
    obtain ⟨h1, t, rfl⟩ := hv
    obtain ⟨t', e, ht⟩ := hT _ _ h1
    have e : V.ref t = V.ref t' := e
    cases e
    obtain ⟨its2, r2, tp, _⟩ := I.tuple ht
    obtain ⟨u1, u2, rfl, ri, rj⟩ := vals2 r2
    obtain ⟨o, ho, hc, n, hd⟩ := tp
    obtain ⟨t1, rfl⟩ := ri; obtain ⟨t2, rfl⟩ := rj
    exact ⟨_, .tuple ho hc hd (.cons (.str _ _) (.cons (.int _ _) .nil))⟩
  case hal =>
    intro d hd d' hd'
    obtain ⟨b, _, rfl⟩ := List.mem_map.mp hd
    obtain ⟨b', _, rfl⟩ := List.mem_map.mp hd'
    simp [asPy, PySem.W.alike, PySem.W.alikeAll]
  case hk =>
    intro d hd
    obtain ⟨b, _, rfl⟩ := List.mem_map.mp hd
    exact ⟨_, _, rfl⟩
  case hu =>
    have e : (asPy b).depth ≤ 3 := by simp [asPy, PyData.depth, PyData.depthAll]
    omega
  case fin =>
    obtain ⟨h3, h4⟩ := each_back eo
    have kp : ∀ b o, s.heap.get? b = some o → (sortedAll s.heap its out.toArray).get? b = some o := fun b o e => sortedAll_old e
    obtain ⟨n, hn⟩ := sortedAll_at s.heap its out.toArray
    exact ⟨.ref (s.heap.objs.size + 1), upd H (s.heap.objs.size + 1) (.lst (out.map backV)), I.laid (t' := s.toks) kp (Nat.le_succ _) ⟨by rw [List.length_map, ho]; exact big, out, n, vals_back h4, hn⟩, rfl, q _ _ h3 (I.hok.fresh (Nat.le_succ _))⟩
theorem g_sortAK {X : Cx} {K : PySem.W.Frag} (hu : X.A.units + 64 < cLine) (hK : X.K = K := by rfl) : CallR X (.builtin "sorted") (rSortA K) := hK ▸ g_sortA hu
abbrev asK (a : As) : D := .kt [.inr a.1, .inl a.2]
abbrev asT (a : As) : D := .tup [.str a.1, .int a.2]
section
variable {K : PySem.W.Frag} {P : Sl → Prop}
theorem dra_each {B : Hp} : ∀ {bs : List As} {xs : List V}, DrA K B (bs.map asK) xs → EachIs (fun v b => Dr K B (asK b) v) xs bs
  | [], _, h => by cases h; exact .nil
  | b :: r, _, h => by cases h with | cons h t => exact .cons h (dra_each t)
theorem each_dra {B : Hp} : ∀ {bs : List As} {xs : List V}, EachIs (fun v b => Dr K B (asK b) v) xs bs → DrA K B (bs.map asK) xs
  | [], _, .nil => .nil
  | b :: r, _, .cons h t => .cons h (each_dra t)
theorem ra_sortA {s : Sl} {bs : List As} (l : LsS s (bs.map asK)) (p : P (.own (oL ((srtA bs).map asK)))) : RaP K (rSortA K) [s] P := fun w wx vs e r Q q => by
  cases r with
  | cons r t =>
    cases t
    obtain ⟨a, xs, rfl, h1, h2⟩ := l.ok r
    refine ⟨a, xs, bs, fun v b => Dr K wx.B (asK b) v, rfl, h1, dra_each h2, fun x b z => ?_, fun ys lo ey hlo => ?_⟩
    · cases z with
      | kt hb => exact ⟨_, rfl, .inl (.inl (wx.sub _ _ hb))⟩
    · exact q _ _ (wx.lay lo _ hlo) (Wd.le_lay hlo) p (own_new e hlo (each_dra ey))
end
end DL
namespace DL
open PySem L2
section
variable {K : PySem.W.Frag}
/-- a def with a tuple as its default -/
theorem funD_mkT {x qual : Str} {st : Stmt} {f T : Addr} {oc ocT : Value} {od an odT : Option Addr} {osl slT : Array (Option Value)} {kV doc pm cdv ct : Value} {e : Addr} {n : Nat} (l : K.lookup f = some ⟨oc, od, .func (PySem.W.fnOf x qual (defArgs st) (defBody st) (defScope st) (.ref T) kV doc pm an cdv ct), osl⟩)
    (lT : K.lookup T = some ⟨ocT, odT, .seq #[.ref e] n, slT⟩) (c : PySem.W.codeIn K cdv qual = true) (k : PySem.W.keepIn K (.ref f) = true) : FunD K x qual (defArgs st) (defBody st) (defScope st) [.ref e] [] f (PySem.W.fnOf x qual (defArgs st) (defBody st) (defScope st) (.ref T) kV doc pm an cdv ct) :=
  ⟨⟨oc, od, .ref T, kV, doc, pm, an, cdv, ct, osl, rfl, l, c, .inr ⟨by simp, T, _, [.ref e], n, rfl, lT, rfl, .cons rfl .nil⟩, .inl rfl⟩, k⟩
end
/-- a class made without arguments: its __init__ takes the empty tuple -/
structure CalMT (Pr : Program) (wd : World) (K : PySem.W.Frag) (mg : Str → Option Value) (base : Heap) (x : Str) (C : Addr) (k : Nat) (ps : List Str) (sp : Sp) : Prop where
  ex : ∃ (f : Addr) (fd : FuncData) (e : Addr) (ds : List Value), Mk K C f ∧ FnOk Pr wd K mg base CX0 k f fd ps sp ∧ mg x = some (.ref C) ∧ Vals [V.ref e] ds ∧ Binds K fd ps ds ∧ ∃ od n sl, K.lookup e = some ⟨.type "tuple", od, .seq #[] n, sl⟩
def tMakeT (K : PySem.W.Frag) (C : Addr) (sp : Sp) : TE := fun σ H Q => ∀ e, (∀ H, SqT K H e []) → tMake C sp [V.ref e] E0 tNil σ H Q
theorem pe_mkT0 {X : Cx} {K : PySem.W.Frag} {x : Str} {C : Addr} {k : Nat} {ps : List Str} {sp : Sp} {p pos : Pos} (G : CalMT X.prog X.w X.K X.mg X.base x C k ps sp) (hr : Room (k + 1) X.A) (hg : Gl X x) (hK : X.K = K := by rfl)
    (hdb : (x == ("__debug__" : Str)) = false := by decide) : PE X (.Call (.Name x p) [] [] pos) (tMakeT K C sp) := by
  subst hK
  obtain ⟨f, fd, e, ds, M, F, hm, hv, hb, od, n, sl, he⟩ := G.ex
  refine ⟨fun pins s σ H Q I h => ?_⟩
  exact (pe_make0 M F hr hg hm hb hv pass0 hdb).run pins s σ H Q I (h e fun _ => .inr ⟨_, #[], n, he, rfl, rfl, Nat.zero_le _, .nil⟩)
section
variable {K : PySem.W.Frag} {env : List Sl} {P : Sl → Prop}
theorem ev_makeT {C : Addr} {S : SpM} (h : ∃ ts, Paired Co [.val (.tup [])] ts ∧ S (.io (.ins C []) :: ts) fun s as' => s = .val .non ∧ ∃ t, as'[0]? = some (.io t) ∧ P (.own t)) : EvE K (tMakeT K C (spM K S)) env P := fun en w σ R Q q e he =>
  ev_make (tA := fun _ H Q => Q [V.ref e] H) (E := E0) (S := S) (fun en w σ R Q q => q [.val (.tup [])] [V.ref e] w w.rfl' h (.cons (Dr.tup (he _) .nil) .nil)) en w σ R Q q
end
end DL
namespace DL
open PySem L2
/-- str of a whole number -/
def rStrI : List V → Hp → VK → Prop := fun xs H Q => ∃ i : Int, xs = [V.int i] ∧ i.natAbs.log2 < 1920 ∧ Q (.str (toString i)) H
theorem b_str {X : Cx} : CallR X (.type "str") rStrI := call_str_int
theorem ra_strI {K : PySem.W.Frag} {P : Sl → Prop} {i : Int} (hi : i.natAbs.log2 < 1920) (p : P (.val (.str (toString i)))) : RaP K rStrI [.val (.int i)] P := fun w wx vs e r Q q => by
  cases r with
  | cons r t =>
    cases t
    cases r
    exact ⟨i, rfl, hi, q _ _ wx wx.rfl' p (.str _)⟩
theorem str_dig {i : Int} (h0 : 0 ≤ i) (h1 : i < 10) : i.natAbs.log2 < 1920 ∧ PySem.PyData.strOk (toString i : String) = true ∧ ((toString i : String) : Str).length = 1 := by
  have : i = 0 ∨ i = 1 ∨ i = 2 ∨ i = 3 ∨ i = 4 ∨ i = 5 ∨ i = 6 ∨ i = 7 ∨ i = 8 ∨ i = 9 := by omega
  rcases this with rfl | rfl | rfl | rfl | rfl | rfl | rfl | rfl | rfl | rfl <;> decide +kernel
end DL

set_option Elab.async false
set_option linter.all false
set_option maxRecDepth 100000
set_option autoImplicit false
namespace DL
open PySem L2
/-! ### isinstance of an instance of one's own class -/
def rIsC (C : Addr) : List V → Hp → VK → Prop := fun xs H Q => ∃ a dx fs, xs = [.ref a, .ref C] ∧ H a = some (.ins C dx fs) ∧ Q (.bl true) H
theorem g_isC {X : Cx} {C : Addr} (c : C8.InsC X.K C) : CallR X (.builtin "isinstance") (rIsC C) := C8.call_isC c
theorem ra_isC {K : PySem.W.Frag} {P : Sl → Prop} {C : Addr} {fs : List (Str × D)} (p : P (.val (.bl true))) : RaP K (rIsC C) [.val (.obj C fs), .val (.ref C)] P := fun w wx vs e r Q q => by
  cases r with
  | cons r t =>
    cases t with
    | cons r2 t2 =>
      cases t2
      obtain ⟨a, dx, gs, rfl, ha⟩ := obj_at r
      cases r2
      exact ⟨a, dx, gs, rfl, ha, q _ _ wx wx.rfl' p (.bl _)⟩
theorem kit_self {K : PySem.W.Frag} {C : Addr} : PySem.W.kitOne K (.ref C) (.ref C) = some true := by
  unfold PySem.W.kitOne
  rw [if_pos (beq_self_eq_true _)]
end DL

set_option Elab.async false
set_option linter.all false
set_option maxRecDepth 100000
set_option autoImplicit false
set_option maxHeartbeats 400000
namespace DL
open PySem L2 PySem.Spec PyProof.Rows
/-! ### a base that reaches up to a number: what is new lies above it -/
def padH (b : Heap) (n : Nat) : Heap := ⟨b.objs ++ Array.replicate (n - b.objs.size) { cls := .none, data := .freed }, b.life⟩
theorem pad_get (b : Heap) (n : Nat) (a : Addr) : (padH b n).get? a = b.get? a := by
  unfold Heap.get? padH
  by_cases h : a < b.objs.size
  · rw [Array.getElem?_append_left h]
  · rw [Array.getElem?_append_right (Nat.le_of_not_lt h), Array.getElem?_eq_none (Nat.le_of_not_lt h), Array.getElem?_replicate]
    by_cases q : a - b.objs.size < n - b.objs.size
    · rw [if_pos q]
    · rw [if_neg q]
theorem pad_size {b : Heap} {n : Nat} (h : b.objs.size ≤ n) : (padH b n).objs.size = n := by
  unfold padH
  rw [Array.size_append, Array.size_replicate]
  omega
theorem pad_keep (b : Heap) (n : Nat) : ∀ a o, b.get? a = some o → (padH b n).get? a = some o := fun a o e => (pad_get b n a).trans e
theorem frames_pad {h b : Heap} {n : Nat} : ∀ {l : List Env}, h.FunFrames b l → h.FunFrames (padH b n) l
  | [], _ => trivial
  | _ :: _, ⟨hk, ⟨L, o, hf, hn, ho, hd⟩, hr⟩ => ⟨hk, ⟨L, o, hf, (pad_get b n L).trans hn, ho, hd⟩, frames_pad hr⟩
theorem env0_pad {P : Program} {w : World} {K : PySem.W.Frag} {mg : Str → Option Value} {base : Heap} {A : Around} {outer : List Env} {s : Shared} {H : Hp} (e : Env0 P w K mg base A outer s H) : Env0 P w K mg (padH base s.heap.objs.size) A outer s H where
  frames := e.frames
  mod := ⟨e.mod.kin.keeps (pad_keep _ _), e.mod.glob.keeps (pad_keep _ _), (by obtain ⟨mb, h1, h2⟩ := e.mod.blt; exact ⟨mb, h1.keeps (pad_keep _ _), h2⟩), e.mod.nolimit.keeps (pad_keep _ _)⟩
  bs := fun b o h => e.bs b o ((pad_get _ _ b).symm.trans h)
  bsz := by rw [pad_size e.bsz]; exact Nat.le_refl _
  funs := frames_pad e.funs
  frf := e.frf
  hok := e.hok
  bare := e.bare
/-! ### a class whose __iter__ is iter of a field that holds a tuple; for over its instances -/
def TtO (t it : Addr) : HO := .ext fun h => h.IsTupleIter it t 0
theorem ttO_ok {P : Program} {w : World} {H : Hp} {h : Heap} {t it : Addr} (e : h.IsTupleIter it t 0) : ObjOk P w H h it (TtO t it) :=
  ⟨e, (by obtain ⟨o, h1, _⟩ := e; exact ⟨o, h1⟩), fun h1 h2 q k => by obtain ⟨o, a, b⟩ := q; exact ⟨o, k o a, b⟩⟩
def rIterT (K : PySem.W.Frag) (n : Nat) : List V → Hp → VK → Prop := fun xs H Q => ∃ (t : Addr) (zs : List V), xs = [V.ref t] ∧ SqT K H t zs ∧ ∀ it, H it = none → n ≤ it → Q (.ref it) (upd H it (TtO t it))
theorem call_iterT {X : Cx} : CallR X (.builtin "iter") (rIterT X.K X.base.objs.size) := by
  intro pins s σ H xs us Q I r h
  obtain ⟨t, zs, rfl, hq, q⟩ := h
  obtain rfl := Vals.ref1 r
  obtain ⟨its, rv, p, hz⟩ := I.tuple hq
  refine Calls.call_function_entry (by decide +kernel) (by decide +kernel) PySem.W.kdk_entry_iter (PySem.W.kdk_args_iter _) ?_
  unfold Builtin.«iter»
  refine wpAny_bind (m := someArgs "iter" 1 2 _) (wpAny_of_eq (a := [Value.ref t]) (by first | rfl | kernel_rfl!) ?_)
  show wpAny _ _ (pyIter (.ref t) >>= _) _ _ _
  refine wpAny_bind (wpAny_pyIter_tuple (show s.heap.IsTuple t its.toArray from p) ?_)
  refine wpAny_pure ⟨_, rfl, ?_⟩
  exact ⟨.ref s.heap.objs.size, _, I.laid (t' := s.toks) (fun b u e => Heap.get?_push_of_some _ e) (Nat.le_refl _) (ttO_ok ⟨_, Heap.get?_push_size _ rfl, rfl, rfl⟩), rfl, q _ (I.hok.fresh (Nat.le_refl _)) (Nat.le_trans I.ok.bsz I.sz)⟩
theorem call_iterTK {X : Cx} {K : PySem.W.Frag} (hK : X.K = K := by rfl) : CallR X (.builtin "iter") (rIterT K X.base.objs.size) := hK ▸ call_iterT
/-- what such an __iter__ promises: fd the field -/
def spIt (K : PySem.W.Frag) (C : Addr) (fd : Str) (n : Nat) : Sp := fun vs H Q _ => ∃ a dx fs t zs, vs = [V.ref a] ∧ H a = some (.ins C dx fs) ∧ fs.lookup fd = some (.ref t) ∧ SqT K H t zs ∧ ∀ it, H it = none → n ≤ it → Q (.ref it) (upd H it (TtO t it))
/-- such an __iter__ -/
structure CalIt (Pr : Program) (wd : World) (K : PySem.W.Frag) (mg : Str → Option Value) (C : Addr) (k : Nat) (ps : List Str) (fl : Str) : Prop where
  ex : ∃ f fd, Cls K C ∧ Meth K C "__iter__" f ∧ (∀ base : Heap, FnOk Pr wd K mg base CX0 k f fd ps (spIt K C fl base.objs.size)) ∧ Binds K fd ps []
theorem it_body {K : PySem.W.Frag} {C : Addr} {fl : Str} {n : Nat} {D : Ends} {vs : List V} {H : Hp} {E : XK} (T : Cls K C) (N : NoAttr K C fl) (h : spIt K C fl n vs H D.rt E) :
    tRet (tCB (rIterT K n) (tCons (tFld K (tVar 0) fl) tNil)) D (vs.map some) H := by
  obtain ⟨a, dx, fs, t, zs, rfl, ha, hl, hz, q⟩ := h
  exact ⟨.ref a, rfl, a, C, dx, fs, .ref t, rfl, ha, T, N, hl, t, zs, rfl, hz, q⟩
def iOwnT (K : PySem.W.Frag) (C : Addr) (fl : Str) (tl : TE) : TI := fun σ H R => tl σ H fun x H1 => ∃ a dx fs t zs, x = .ref a ∧ H1 a = some (.ins C dx fs) ∧ fs.lookup fl = some (.ref t) ∧ SqT K H1 t zs ∧ R (Itt K t) H1
theorem pi_own {X : Cx} {tg l : Expr} {tl : TE} {C : Addr} {fl : Str} {k : Nat} {ps : List Str} (hl : PE X l tl) (G : CalIt X.prog X.w X.K X.mg C k ps fl) (hr : Room k X.A) : PI X tg l (iOwnT X.K C fl tl) := by
  obtain ⟨f, fd, c, M, F0, hb⟩ := G.ex
  refine ⟨fun pins s σ H R I h => ?_⟩
  refine thn (hl.run pins s σ H _ I h) fun v s1 ⟨x, H1, I1, r1, q1⟩ => ?_
  obtain ⟨a, dx, fs, t, zs, rfl, ha, hlk, hz, q⟩ := q1
  obtain rfl : v = Value.ref a := r1
  obtain ⟨mA, J, _⟩ := ins_get I1.hok ha
  obtain ⟨od, J, _⟩ := J.look
  obtain ⟨m', hF⟩ := I1.fr
  refine PySem.W.owit_iter hF I1.ok.mod.kin J M.at_ M.fn ?_
  have F := F0 (padH X.base s1.heap.objs.size)
  have bz : (padH X.base s1.heap.objs.size).objs.size = s1.heap.objs.size := pad_size I1.env0.bsz
  rw [bz] at F
  have sp : spIt X.K C fl s1.heap.objs.size [V.ref a] H1 (fun v H' => ∃ it, v = .ref it ∧ H1 it = none ∧ s1.heap.objs.size ≤ it ∧ H' = upd H1 it (TtO t it)) E0 := ⟨a, dx, fs, t, zs, rfl, ha, hlk, hz, fun it hi hn => ⟨it, rfl, hi, hn, rfl⟩⟩
  have r2 : Vals [V.ref a] [Value.ref a] := .cons rfl .nil
  have hlen := F.len _ _ _ _ sp
  refine wpAny_call (codeAny_mono (F.run X.A X.stack s1 H1 ⟨[.ref a], []⟩ [.ref a] [.ref a] _ E0 hr (env0_pad I1.env0) (by
    have := hb s1 [.ref a] I1.kIn (by simpa using hlen)
    simpa using this) r2 sp) fun r s' hq => ?_)
  cases r with
  | error e => exact pass0 pins σ H1 s1 e s' I1 hq
  | ok fl2 =>
    cases fl2 with
    | ret u =>
      have hq : CE X.stack X.prog X.w H1 s1 _ u s' := hq
      obtain ⟨v3, H3, I3, rv3, it3, e3, hi, big, rfl⟩ := I1.after hq
      subst e3
      obtain rfl : u = Value.ref it3 := rv3
      have hext : upd H1 it3 (TtO t it3) it3 = some (TtO t it3) := upd_same
      have hit : s'.heap.IsTupleIter it3 t 0 := (I3.hok it3 _ hext).1
      have I4 := ItX.inv_drop I3 hext
      have fp := ItX.inv_fp I3 hext (Nat.le_trans I1.sz big)
      rw [ItX.dropH_upd hi] at I4 fp
      unfold PySem.W.OwitIt
      refine wpAny_specialOf hit.typeIs PySem.F.slot_tuple_iterator_next.lookup ?_
      exact ⟨it3, [it3], _, _, H1, rfl, I4, turn_tuple t it3, hit, fun b hb => by
        have e : b = it3 := by simpa using hb
        subst e
        exact fp, q⟩
    | next => exact False.elim hq
    | brk => exact False.elim hq
    | cont => exact False.elim hq
end DL
namespace DL
open PySem L2
section
variable {K : PySem.W.Frag} {env : List Sl} {te : TE} {b : Bool} {Pd : List D → Prop}
theorem lookF {B : Hp} {fl : Str} {d : D} : ∀ {fs : List (Str × D)} {gs : List (Str × V)}, DrF K B fs gs → fs.lookup fl = some d → ∃ v, gs.lookup fl = some v ∧ Dr K B d v := fun h e => h.look e
theorem ei_ownT {C : Addr} {fl : Str} (h : EvE K te env fun s => ∃ fs ds, s = .val (.obj C fs) ∧ fs.lookup fl = some (.tup ds) ∧ Pd ds) : EvI K b (iOwnT K C fl te) env Pd := fun en w σ R Q q =>
  h en w σ R _ fun s v w1 e1 h1 r1 => by
    obtain ⟨fs, ds, rfl, hl, p⟩ := h1
    cases r1 with
    | obj hb rf =>
      obtain ⟨u, hu, rd⟩ := rf.look hl
      cases rd with
      | tup ha r => exact ⟨_, _, _, _, _, rfl, w1.sub _ _ hb, hu, sameT w1.sub ha, q _ ds w1 e1 p (itd_tup (fun w' l => sameT w'.sub (sameT l.b ha)) fun w' l => r.mono l.b)⟩
theorem ei_L {i j : TI} (h : EvI K b i env Pd) : EvI K b (iOr i j) env Pd := fun en w σ R Q q => .inl (h en w σ R Q q)
theorem ei_R {i j : TI} (h : EvI K b j env Pd) : EvI K b (iOr i j) env Pd := fun en w σ R Q q => .inr (h en w σ R Q q)
end
theorem pi_ownK {X : Cx} {K : PySem.W.Frag} {tg l : Expr} {tl : TE} {C : Addr} {fl : Str} {k : Nat} {ps : List Str} (hl : PE X l tl) (G : CalIt X.prog X.w X.K X.mg C k ps fl) (hr : Room k X.A) (hK : X.K = K := by rfl) : PI X tg l (iOwnT K C fl tl) := hK ▸ pi_own hl G hr
end DL

set_option Elab.async false
set_option linter.all false
set_option maxRecDepth 100000
set_option autoImplicit false
namespace DL
open PySem L2 PySem.Spec PyProof.Rows NdefX
/-! ### an own exception class whose __init__ says super().__init__(text) -/
section
variable {prog : Program} {w : World} {M : Model} {A : Around} {E : Value → Shared → Prop} {h : Heap} {g : Array GenState} {d : Drawn} {t : Nat} {os : OsState} {s : Shared}
variable {nm q : Str} {C N : Addr} {bs bm : List Value} {hdct : Bool} {sn : List Str} {sub : List Value} {ab : Bool} {col : Option Bool} {dd : Option Addr} {k0 k1 k2 k3 k5 : Option Value}
theorem mw_call {u e t0 : Addr} {rest : List Value} {Q : Value → Shared → Prop}
    (hC : h.get? C = some (excClassObj nm q C N bs bm hdct sn sub ab col dd k0 k1 k2 k3 k5 "ValueError.__new__")) (he : h.get? e = some ({ cls := .ref C, dict := none, data := .fields #[.ref t0, .none, .none, .none, .bool false, .none] } : Obj)) (hu : h.get? u = some (PySem.W.kxs_mw "ValueError.__init__" e)) (hz : rest.length ≤ sizeLine)
    (hq : ∀ h' t1, (∀ b o, b ≠ e → h.get? b = some o → h'.get? b = some o) → h'.get? e = some ({ cls := .ref C, dict := none, data := .fields #[.ref t1, .none, .none, .none, .bool false, .none] } : Obj) → Q .none ⟨h', g, d, t, os⟩) :
    wpAny (model prog w) A (call (.ref u) rest) Q E ⟨h, g, d, t, os⟩ := by
  refine wpAny_call (codeAny_of_tree ?_)
  show wpAny _ A.in1 (callAny (.ref u) ⟨rest, []⟩) _ _ _
  simp only [callAny]
  refine wpAny_bind (wpAny_load hu ?_)
  simp only [PySem.W.kxs_mw, show (Value.type "method-wrapper" == Value.type "method" || Value.type "method-wrapper" == Value.type "builtin_function_or_method" || Value.type "method-wrapper" == Value.type "method-wrapper") = true by decide, if_true]
  refine PySem.W.KFB.if_so (by decide) ?_
  refine wpAny_bind (PySem.W.check_bound_init F.excBase_ValueError.toExcCallFacts hC he rfl ?_)
  refine wpAny_bind (wpAny_pure (wpAny_pure ?_))
  refine ⟨plainId_quiet F.excBase_ValueError.init.plain _, codeAny_builtin F.excBase_ValueError.initEntry ?_⟩
  rw [Around.under_plainId F.excBase_ValueError.init.plain _]
  exact PySem.W.exc_init_tree (cls := .ref C) (t0 := t0) (dv := none) (c2 := .none) (c3 := .none) (b4 := .bool false) he hz fun h' k e' t' => hq h' _ k e'
theorem mw_callWith1 {i : String} {u x : Addr} {pos : Pos} {env : Env} {e : Expr} {rest : List Expr} {Q : Value → Shared → Prop}
    (h : wpAny M A (spliced (backTo pos (starEach (e :: rest) env))) (fun vs s₁ => PySem.W.KxsAt i u x s₁.heap ∧ wpAny M A (call (.ref u) vs) Q E s₁) E s)
    (he : starEach (e :: rest) env = (false, eval e env) :: starEach rest env := by rfl) (hplain : (backTo pos (starEach rest env)).any (·.1) = false := by rfl) :
    wpAny M A (callWith pos (.ref u) [] (backTo pos (starEach (e :: rest) env)) []) Q E s := by
  rw [he] at h ⊢
  refine PySem.W.kxs_callWith (i := i) (x := x) (by show (false || (backTo pos (starEach rest env)).any (·.1)) = false; rw [hplain]; rfl) ?_
  exact PySem.Calls.evalArgs_plain h
end
/-- what the written part says of the class C, whose __init__ stands in D -/
structure SupC (K : PySem.W.Frag) (C D : Addr) : Prop where
  oex : OexC K C
  mro : PySem.W.mroIn K C (.ref D) = some true
  sup : PySem.W.ks_superIn K C D "__init__" = some (some (.builtin "ValueError.__init__"))
  sub : PySem.W.subIn K (.ref C) (.type "ValueError") = some true
  wh : PySem.W.findIn K (.ref C) "what" = some none
/-- super().__init__(text) -/
abbrev supS (p0 p1 p2 p3 p4 p5 : Pos) (j : Nat) (msg : Str) : Stmt := .Expr (.Call (.Attribute (.Call (.Name "super" p0) [] [] p1) "__init__" p2) [.Constant (.str msg) j p3] [] p4) p5
section
variable {CX : CXT} {P : Program} {w : World} {K : PySem.W.Frag} {mg : Str → Option Value} {base : Heap} {k : Nat} {f cda cc D : Addr} {name qual : Str} {params : Arguments} {rest : List Stmt} {scope : Scope} {dV kV doc pm ct oc ccl cl : Value} {an od cdd cld : Option Addr}
    {osl ccs csl : Array (Option Value)} {N ps ps' : List Str} {sp : Sp} {p0 p1 p2 p3 p4 p5 : Pos} {j : Nat} {msg : Str} {cvs : Array Value} {file : Str} {tf : Tok} {cdD : ClassData} {ar : Arg}
theorem fn_super {pl : Env → Sem Bool} (hev : ∀ env : Env, eval (.Call (.Attribute (.Call (.Name "super" p0) [] [] p1) "__init__" p2) [.Constant (.str msg) j p3] [] p4) env = (do
      let ov ← attributeBase (.Call (.Name "super" p0) [] [] p1) "__init__" env (eval (.Call (.Name "super" p0) [] [] p1) env)
      standAt p2.atName
      let (f, first) ← holding [ov] (getMethod ov "__init__" (pl env))
      callWith p4 f first (backTo p4 (starEach [.Constant (.str msg) j p3] env)) []))
    (lk : K.lookup f = some ⟨oc, od, .func (PySem.W.ksFn name qual params (supS p0 p1 p2 p3 p4 p5 j msg :: rest) scope dV kV doc pm an (.ref cda) ct cc), osl⟩)
    (hcd : PySem.W.codeIn K (.ref cda) qual = true) (S : NScope N ps ["__class__"] scope)
    (hcda : K.lookup cda = some ⟨ccl, cdd, .fields cvs, ccs⟩) (hvs : cvs[2]? = some (.str file tf)) (hfile : ((P.main.file : Str) == file) = true)
    (hcell : K.lookup cc = some ⟨cl, cld, .cell (some (.ref D)), csl⟩) (hD : PySem.W.clsIn K D = some cdD) (hsuper : mg "super" = none) (htop : (P.main.scope.names.lookup ("super" : Str)).isSome = false)
    (hany : PySem.W.nsIn K cStatics "thirdparty.any" = some none) (hp : (params.posonlyargs ++ params.args).head? = some ar) (hps : ps = ar.arg :: ps') (hks : scope.names.lookup ("super" : Str) = some .globalImplicit)
    (len : ∀ vs H Q E, sp vs H Q E → vs.length = ps.length)
    (hbody : ∀ (A : Around) (outer : List Env) (s : Shared) (H : Hp) (vs : List V) (Q : VK) (E : XK), Room k (A.deeper (envF ⟨name, qual, params, supS p0 p1 p2 p3 p4 p5 j msg :: rest, scope, [("__class__", cc)], cda⟩ f s.heap.objs.size)) → sp vs H Q E →
      ∃ a C vs', vs = .ref a :: vs' ∧ SupC K C D ∧ H a = some (exo a C none) ∧
      ∃ t, PSs (ncx CX P w K mg base N ⟨name, qual, params, supS p0 p1 p2 p3 p4 p5 j msg :: rest, scope, [("__class__", cc)], cda⟩ f A outer s H E) rest t ∧ t { nx := fun _ H' => Q .non H', rt := Q } (startF N vs [some (.ref D)]) H) :
    FnOk P w K mg base CX (k + 1) f (PySem.W.ksFn name qual params (supS p0 p1 p2 p3 p4 p5 j msg :: rest) scope dV kV doc pm an (.ref cda) ct cc) ps sp := by
  refine ⟨len, fun A outer s H args us vs Q E hr e0 hb r hsp => ?_⟩
  have hl := len _ _ _ _ hsp
  have bk : ∀ b o, base.get? b = some o → s.heap.get? b = some o := fun b o e => (e0.bs b o e).1
  have KX : K.In s.heap := e0.mod.kin.keeps bk
  have lim : s.heap.NoLimit := e0.mod.nolimit.keeps bk
  have lc : ∀ {y : Str} {c : Addr}, List.lookup y [(("__class__" : Str), cc)] = some c → y = "__class__" ∧ c = cc := fun {y c} e => by
    have m := PySem.mem_of_lookup e
    simp at m
    exact m
  have CA : CellsAt [("__class__", cc)] ["__class__"] [some (.ref D)] s.heap H := by
    refine ⟨rfl, fun y c e => ?_, fun x y c e1 e2 => (lc e1).1.trans (lc e2).1.symm, fun i y e => ?_⟩
    · obtain ⟨_, rfl⟩ := lc e
      exact ⟨(e0.bs _ _ (e0.mod.kin _ _ hcell)).2, _, _, KX _ _ hcell, rfl⟩
    · cases i with
      | zero =>
        have e : some ("__class__" : Str) = some y := e
        cases e
        refine ⟨cc, rfl, fun v hv => ?_⟩
        have hv : some (some (V.ref D)) = some (some v) := hv
        cases hv
        exact ⟨.ref D, rfl, _, KX _ _ hcell, rfl⟩
      | succ i => simp at e
  refine ks_codeAny_call_defAt (fd := PySem.W.ksFn name qual params (supS p0 p1 p2 p3 p4 p5 j msg :: rest) scope dV kV doc pm an (.ref cda) ct cc) (body := supS p0 p1 p2 p3 p4 p5 j msg :: rest) (binds := ps.zip us) hr.depth (KX _ _ lk) rfl lim
    (PySem.W.codeRec_of KX hcd) rfl hb S.nocell (fun ⟨n, _⟩ hy => S.par n (List.of_mem_zip hy).1) (fun h₁ hns kp => ?_) S.co S.gen S.kind
  obtain ⟨a, C, vs', hv, SC, ea, t, ht, hq⟩ := hbody A outer s H vs Q E (hr.deeper _) hsp
  have I : Inv (ncx CX P w K mg base N ⟨name, qual, params, supS p0 p1 p2 p3 p4 p5 j msg :: rest, scope, [("__class__", cc)], cda⟩ f A outer s H E) [] (startF N vs [some (.ref D)]) H { s with heap := h₁, toks := s.toks + (ps.zip us).length } := inv_startN S hr.hd e0 hl r CA hns kp
  show PySem.wpAt (model P w) (A.deeper (envF ⟨name, qual, params, supS p0 p1 p2 p3 p4 p5 j msg :: rest, scope, [("__class__", cc)], cda⟩ f s.heap.objs.size)) (.func (supS p0 p1 p2 p3 p4 p5 j msg :: rest) (envF ⟨name, qual, params, supS p0 p1 p2 p3 p4 p5 j msg :: rest, scope, [("__class__", cc)], cda⟩ f s.heap.objs.size)) (execs (supS p0 p1 p2 p3 p4 p5 j msg :: rest) (envF ⟨name, qual, params, supS p0 p1 p2 p3 p4 p5 j msg :: rest, scope, [("__class__", cc)], cda⟩ f s.heap.objs.size)) _ _ _
  have gv : ∃ us', us = Value.ref a :: us' := by
    subst hv
    cases r with
    | @cons _ u0 _ ur ra rw' =>
      obtain rfl : u0 = Value.ref a := ra
      exact ⟨ur, rfl⟩
  obtain ⟨us', rfl⟩ := gv
  have X1 : K.In h₁ := I.kIn
  obtain ⟨oD, hD1, hD2⟩ : ∃ oD, h₁.get? D = some oD ∧ oD.data = .cls cdD := by
    unfold PySem.W.clsIn at hD
    split at hD
    · rename_i c d cd' sl ho
      cases hD
      exact ⟨_, X1 _ _ ho, rfl⟩
    · cases hD
  obtain ⟨t1, ho⟩ := exo_at I.hok ea
  have hkc : scope.names.lookup ("__class__" : Str) = some .free := S.frk _ (by simp)
  have ndP : ps.Nodup := by
    have q := S.nd.sublist (List.take_sublist (ps.length + 1) N)
    have q2 := S.pre
    simp only [List.length_cons, List.length_nil] at q2
    rw [q2] at q
    exact (List.nodup_append.mp q).1
  obtain ⟨mb, g1, g2⟩ := e0.mod.blt
  have bk1 : ∀ b o, base.get? b = some o → h₁.get? b = some o := I.bk
  refine ks_wpAt_execs_cons (ks_wpAt_Expr_any (ks_wpAt_MethodCall ?_ (hev _)) (hi := I.quiet))
  refine ks_wpAt_super_base hks hkc (by decide) rfl (X1 _ _ lk) rfl hp rfl (X1 _ _ hcda) rfl hvs hfile htop ?_
  refine PySem.W.ks_loadName_global S.kind hks (PySem.Calls.loadGlobal_builtin (e0.mod.glob.keeps bk1) hsuper (g1.keeps bk1) ((g2 _ (by decide)).trans (show bootBuiltins "super" = some (.type "super") by first | rfl | kernel_rfl | boot_by_name)) ⟨rfl, ?_⟩)
  refine wpAny_loadName_free S.kind hkc rfl ⟨_, X1 _ _ hcell, rfl⟩ ?_
  refine wpAny_loadName_local S.kind (S.par _ (by rw [hps]; simp)) hns (zip_look (i := 0) ndP (by rw [hps]; rfl) (by rfl)) ?_
  refine ks_wpAny_isType_cls hD1 hD2 ⟨rfl, ?_⟩
  refine ks_wpAny_call_super hD1 hD2 ho rfl (fun c z => by cases z) (PySem.W.looks_mroIn X1 SC.mro) (fun h2 e2 kp2 => ?_)
  have I2 : Inv (ncx CX P w K mg base N ⟨name, qual, params, supS p0 p1 p2 p3 p4 p5 j msg :: rest, scope, [("__class__", cc)], cda⟩ f A outer s H E) [] (startF N vs [some (.ref D)]) H { s with heap := h2, toks := s.toks + (ps.zip (Value.ref a :: us')).length } := I.kept (h' := h2) kp2
  obtain ⟨t2, ho2⟩ := exo_at I2.hok ea
  have X2 : K.In h2 := I2.kIn
  obtain ⟨cd, hcd2, hm2⟩ := Option.bind_eq_some_iff.mp SC.sup
  have IA : PySem.W.InstAt h2 a ({ cls := .ref C, dict := none, data := .fields #[.ref t2, .none, .none, .none, .bool false, .none] } : Obj) C none := ⟨ho2, rfl, rfl, trivial⟩
  refine PySem.W.kxs_getMethod PySem.W.kxs_ValueError e2 (PySem.W.looks_opaque X2 hany) (l₀ := cd.mro) (fun A Q E s k q => wpAny_bind ((PySem.W.looks_clsIn X2 hcd2) A _ E s k (wpAny_pure q))) rfl X2 hm2 (IA.type.andThen (PySem.W.looks_subIn X2 SC.sub)) (PySem.W.ks_ne X2 IA hcd2) (by decide) ?_
  have I3 : Inv (ncx CX P w K mg base N ⟨name, qual, params, supS p0 p1 p2 p3 p4 p5 j msg :: rest, scope, [("__class__", cc)], cda⟩ f A outer s H E) [] (startF N vs [some (.ref D)]) H { s with heap := h2.push (PySem.W.kxs_mw "ValueError.__init__" a), toks := s.toks + (ps.zip (Value.ref a :: us')).length + 1 } := I2.kept (h' := h2.push (PySem.W.kxs_mw "ValueError.__init__" a)) fun b o e => Heap.get?_push_of_some _ e
  have I4 := I3.pins_of (pins' := [(h2.objs.size, PySem.W.kxs_mw "ValueError.__init__" a)]) (fun p hp => by
    obtain rfl : p = (h2.objs.size, PySem.W.kxs_mw "ValueError.__init__" a) := by simpa using hp
    exact ⟨Heap.get?_push_at rfl rfl, I2.hok.fresh (Nat.le_refl _), Nat.ne_of_gt I2.lt, I2.nofs (Nat.le_refl _), fun v z => by cases z⟩)
  refine mw_callWith1 (i := "ValueError.__init__") (x := a) (thn ((pa_cons (X := ncx CX P w K mg base N ⟨name, qual, params, supS p0 p1 p2 p3 p4 p5 j msg :: rest, scope, [("__class__", cc)], cda⟩ f A outer s H E) pe_str pa_nil).run p4 [(h2.objs.size, PySem.W.kxs_mw "ValueError.__init__" a)] _ (startF N vs [some (.ref D)]) H (fun ws H' => ws = [.str msg] ∧ H' = H) I4 ⟨rfl, rfl⟩) fun ys s5 ⟨ws, H5, I5, r5, q5, q6⟩ => ?_)
  subst q5 q6
  have hu : s5.heap.get? h2.objs.size = some (PySem.W.kxs_mw "ValueError.__init__" a) := (I5.pin (h2.objs.size, PySem.W.kxs_mw "ValueError.__init__" a) (by simp)).1
  refine ⟨hu, ?_⟩
  obtain ⟨t5, ho5⟩ := exo_at I5.hok ea
  obtain ⟨nm, qn, NN, bs, bm, sn, sub, ab, col, dd, k0, k1, k2, k3, k5, hC, hbm⟩ := SC.oex.cls
  have hz : ys.length ≤ sizeLine := by
    rw [← Paired.length r5, sizeLine_eq]
    simp
  obtain ⟨hp5, g5, d5, t5', os5⟩ := s5
  refine mw_call (I5.kIn _ _ hC) ho5 hu hz (fun h' t6 k6 hx => ?_)
  have J := I5.write (t' := t5') (x := a) (e := a) (o := exo a C none) (by rw [ea]; exact True.intro) (.inl rfl) k6 ⟨_, hx⟩ (exo_ok hx)
  have eu : upd H5 a (exo a C none) = H5 := by
    funext b
    by_cases hb : b = a
    · rw [hb, upd_same, ea]
    · rw [upd_ne hb]
  rw [eu] at J
  have J2 := J.pins_of (pins' := []) (fun p hp => J.pin p (List.mem_append_left _ (by simpa using hp)))
  have fin : ∀ {σ' : L2.St} {H' : Hp} {v : V} {u : Value} {s' : Shared}, Inv (ncx CX P w K mg base N ⟨name, qual, params, supS p0 p1 p2 p3 p4 p5 j msg :: rest, scope, [("__class__", cc)], cda⟩ f A outer s H5 E) [] σ' H' s' → L2.RelV v u → Q v H' → CE outer P w H5 s Q u s' :=
    fun {σ' H' v u s'} J rv q => ⟨v, H', J.os, J.bare, J.base, J.hok, rv, q⟩
  refine PySem.wpAt_of_wpAny (wpAny_mono (ht.run [] _ (startF N vs [some (.ref D)]) H5 _ J2 hq) (fun fl s' hs => ?_) fun e s' hs => hs)
  cases fl with
  | ret u =>
    obtain ⟨v, σ', H', J, rv, q⟩ := hs
    exact fin J rv q
  | next =>
    obtain ⟨σ', H', J, q⟩ := hs
    exact fin (v := V.non) (u := Value.none) J rfl q
  | brk =>
    obtain ⟨_, _, _, q⟩ := hs
    exact False.elim q
  | cont =>
    obtain ⟨_, _, _, q⟩ := hs
    exact False.elim q
end
end DL

set_option Elab.async false
set_option linter.all false
set_option maxRecDepth 100000
set_option autoImplicit false
namespace DL
open PySem L2 PySem.Spec PyProof.Rows NdefX
/-! ### the __init__ that keeps what it is given as .what -/
def spKE (K : PySem.W.Frag) (D : Addr) : Sp := fun vs H Q _ => ∃ (a C : Addr) (v : V), vs = [.ref a, v] ∧ SupC K C D ∧ H a = some (exo a C none) ∧ ∀ dx, H dx = none → dx ≠ a → Q .non (upd (upd H dx (exd dx [("what", v)])) a (exo a C (some dx)))
section
variable {CX : CXT} {P : Program} {w : World} {K : PySem.W.Frag} {mg : Str → Option Value} {base : Heap} {k : Nat} {f cda cc D : Addr} {name qual : Str} {params : Arguments} {scope : Scope} {dV kV doc pm ct oc ccl cl : Value} {an od cdd cld : Option Addr}
    {osl ccs csl : Array (Option Value)} {p0 p1 p2 p3 p4 p5 q0 q1 q2 q3 : Pos} {j : Nat} {msg : Str} {cvs : Array Value} {file : Str} {tf : Tok} {cdD : ClassData} {ar : Arg}
theorem kept_ok {pl : Env → Sem Bool} (hev : ∀ env : Env, eval (.Call (.Attribute (.Call (.Name "super" p0) [] [] p1) "__init__" p2) [.Constant (.str msg) j p3] [] p4) env = (do
      let ov ← attributeBase (.Call (.Name "super" p0) [] [] p1) "__init__" env (eval (.Call (.Name "super" p0) [] [] p1) env)
      standAt p2.atName
      let (f, first) ← holding [ov] (getMethod ov "__init__" (pl env))
      callWith p4 f first (backTo p4 (starEach [.Constant (.str msg) j p3] env)) []))
    (lk : K.lookup f = some ⟨oc, od, .func (PySem.W.ksFn name qual params [supS p0 p1 p2 p3 p4 p5 j msg, .Assign [.Attribute (.Name "self" q0) "what" q1] (.Name "what" q2) q3] scope dV kV doc pm an (.ref cda) ct cc), osl⟩)
    (hcd : PySem.W.codeIn K (.ref cda) qual = true) (S : NScope ["self", "what", "__class__"] ["self", "what"] ["__class__"] scope)
    (hcda : K.lookup cda = some ⟨ccl, cdd, .fields cvs, ccs⟩) (hvs : cvs[2]? = some (.str file tf)) (hfile : ((P.main.file : Str) == file) = true)
    (hcell : K.lookup cc = some ⟨cl, cld, .cell (some (.ref D)), csl⟩) (hD : PySem.W.clsIn K D = some cdD) (hsuper : mg "super" = none) (htop : (P.main.scope.names.lookup ("super" : Str)).isSome = false)
    (hany : PySem.W.nsIn K cStatics "thirdparty.any" = some none) (hp : (params.posonlyargs ++ params.args).head? = some ar) (har : ar.arg = "self") (hks : scope.names.lookup ("super" : Str) = some .globalImplicit) :
    FnOk P w K mg base CX (k + 1) f (PySem.W.ksFn name qual params [supS p0 p1 p2 p3 p4 p5 j msg, .Assign [.Attribute (.Name "self" q0) "what" q1] (.Name "what" q2) q3] scope dV kV doc pm an (.ref cda) ct cc) ["self", "what"] (spKE K D) := by
  refine fn_super (ps' := ["what"]) hev lk hcd S hcda hvs hfile hcell hD hsuper htop hany hp (by rw [har]) hks (fun vs H Q E h => ?_) (fun A outer s H vs Q E hr h => ?_)
  · obtain ⟨a, C, v, rfl, _⟩ := h; rfl
  · obtain ⟨a, C, v, rfl, SC, ea, h⟩ := h
    refine ⟨a, C, [v], rfl, SC, ea, _, pss_one (ps_ost (pe_var (i := 0) rfl (.inl (S.par _ (by simp)))) (pe_var (i := 1) rfl (.inl (S.par _ (by simp))))), ?_⟩
    exact ⟨v, rfl, .ref a, rfl, a, C, rfl, SC.oex, SC.wh, .inl ⟨ea, fun dx n ne => h dx n ne⟩⟩
end

/-! ### statements that may raise: an exception of class C that keeps d -/
abbrev XP := Addr → D → List Sl → Prop
/-- the wish W takes what Z says -/
def WOk (K : PySem.W.Frag) (en : En) (w : Wd) (Z : XP) (W : WX) : Prop := ∀ C dx d v (w' : Wd) σ' env', Same w.B w'.B → σ'.length = env'.length → en.args.length ≤ env'.length → Rel K en w' (env' ++ [.val d]) (σ' ++ [some v]) → w'.B dx = some (.xd [("what", v)]) → Z C d env' → W (.ref C) (some dx) σ' w'.H
def WpX (K : PySem.W.Frag) (W : WX) (t : TS) (env : List Sl) (P : Post) (Z : XP) : Prop := ∀ (en : En) (w : Wd) (σ : TSt), Rel K en w env σ → WOk K en w Z W → ∀ D : Ends, Nx K en w P.nx D.nx → Nx K en w P.bk D.bk → Nx K en w P.ct D.ct → Rt K en w P.rt D.rt → t D σ w.H
abbrev Post.sqX (K : PySem.W.Frag) (W : WX) (u : TS) (P : Post) (Z : XP) : Post := { P with nx := fun e => WpX K W u e P Z }
section
variable {K : PySem.W.Frag} {W : WX} {Z Z' : XP} {env : List Sl} {P P' : Post} {en : En} {w w' w'' : Wd} {t u : TS} {te ta tb : TE} {tt : TT} {N : List Sl → Prop} {d : TSt → Hp → Prop}
theorem WOk.back (h : WOk K en w Z W) (e : Same w.B w'.B) : WOk K en w' Z W := fun C dx d v w2 σ' env' s hl ha R hx z => h C dx d v w2 σ' env' (e.trans s) hl ha R hx z
theorem wpx_of (h : Wp K t env P) : WpX K W t env P Z := fun en w σ R _ D hn hb hc hr => h en w σ R D hn hb hc hr
/-- the wish behind: what follows may raise -/
theorem wpx_seq (h : WpX K W t env (Post.sqX K W u P Z) Z) : WpX K W (tSeq t u) env P Z := fun en w σ R O D hn hb hc hr =>
  h en w σ R O { D with nx := u D } (fun w' σ' env' s R' n => n en w' σ' R' (O.back s) D (hn.back s) (hb.back s) (hc.back s) (hr.back s)) hb hc hr
theorem wpx_if (h : EvT K tt env fun b => (b = true → WpX K W t env P Z) ∧ (b = false → WpX K W u env P Z)) : WpX K W (tIfS tt t u) env P Z := fun en w σ R O D hn hb hc hr =>
  h en w σ R _ fun b w1 e1 h1 => by
    cases b with
    | true => exact h1.1 rfl en w1 σ (R.grow e1) (O.back e1.b) D (hn.back e1.b) (hb.back e1.b) (hc.back e1.b) (hr.back e1.b)
    | false => exact h1.2 rfl en w1 σ (R.grow e1) (O.back e1.b) D (hn.back e1.b) (hb.back e1.b) (hc.back e1.b) (hr.back e1.b)
theorem wpx_imp (h : WpX K W t env P Z) (h1 : ∀ e, P.nx e → P'.nx e) (h2 : ∀ s e, P.rt s e → P'.rt s e) (h3 : ∀ e, P.bk e → P'.bk e) (h4 : ∀ e, P.ct e → P'.ct e) (h5 : ∀ C d e, Z C d e → Z' C d e) : WpX K W t env P' Z' := fun en w σ R O D hn hb hc hr =>
  h en w σ R (fun C dx d v w' σ' env' s hl ha R' hx z => O C dx d v w' σ' env' s hl ha R' hx (h5 _ _ _ z)) D (fun w' σ' env' s R' n => hn w' σ' env' s R' (h1 _ n)) (fun w' σ' env' s R' n => hb w' σ' env' s R' (h3 _ n)) (fun w' σ' env' s R' n => hc w' σ' env' s R' (h4 _ n))
    (fun s v w' σ' env' st sb hl ha R' n => hr s v w' σ' env' st sb hl ha R' (h2 _ _ n))
theorem wpx_cut (M : List Sl → Prop) (h : WpX K W t env (P.cut M) Z) (h2 : ∀ e, M e → P.nx e) : WpX K W t env P Z := wpx_imp h h2 (fun _ _ z => z) (fun _ z => z) (fun _ z => z) fun _ _ _ z => z
theorem wpx_for {wi : TI} {g : TG} {tb : TS} (Inv : Nat → List Sl → Prop) (ys : List D) (h : EvI K false wi env fun ds => ds = ys) (h0 : Inv 0 env)
    (hs : ∀ i d env', ys[i]? = some d → Inv i env' → ∃ us, GD K g d us ∧ WpX K W tb (sets us env') (Post.loop P (Inv (i + 1))) Z)
    (hd : ∀ env', Inv ys.length env' → P.nx env') : WpX K W (tFor wi g tb) env P Z := fun en w σ R O D hn hb hc hr =>
  h en w σ R _ fun J ds w1 e1 hy it => by
    subst hy
    refine ⟨fun i m σ' H' => m = ds.length - i ∧ i ≤ ds.length ∧ ∃ w' env', w'.H = H' ∧ Same w1.B w'.B ∧ Rel K en w' env' σ' ∧ Inv i env', ⟨ds.length, by simp, Nat.zero_le _, w1, env, rfl, Same.refl _, R.grow e1, h0⟩, ?_⟩
    rintro i m σ' H' ⟨rfl, hi, w', env', rfl, sb, R', iv⟩
    have itw := it w' ⟨sb, R'.le⟩
    by_cases hlt : i < ds.length
    · right
      obtain ⟨go, yl⟩ := itw.1 i ds[i] (List.getElem?_eq_getElem hlt)
      refine ⟨go, fun σ2 H2 => ∃ w2 env2, w2.H = H2 ∧ Same w1.B w2.B ∧ Rel K en w2 env2 σ2 ∧ Inv (i + 1) env2, fun σ2 H2 ⟨w2, env2, q1, q2, q3, q4⟩ => ⟨ds.length - (i + 1), by omega, rfl, hlt, w2, env2, q1, q2, q3, q4⟩, fun x H2 y => ?_⟩
      obtain ⟨w2, rfl, e2, rd⟩ := yl x H2 y
      obtain ⟨us, G, body⟩ := hs i ds[i] env' (List.getElem?_eq_getElem hlt) iv
      refine G.run rd fun vs gv => ?_
      have sb2 := sb.trans e2.b
      refine body en w2 _ ((R'.grow e2).sets gv) (O.back (e1.b.trans sb2)) _ (fun w3 σ3 env3 s3 R3 n3 => ⟨w3, env3, rfl, sb2.trans s3, R3, n3⟩) (fun w3 σ3 env3 s3 R3 n3 => hn w3 σ3 env3 ((e1.b.trans sb2).trans s3) R3 n3) (fun w3 σ3 env3 s3 R3 n3 => ⟨w3, env3, rfl, sb2.trans s3, R3, n3⟩) (hr.back (e1.b.trans sb2))
    · left
      have e : i = ds.length := by omega
      subst e
      exact ⟨itw.2 _ (Nat.le_refl _), hn w' σ' env' (e1.b.trans sb) R' (hd env' iv)⟩
/-- raise C(e), C's __init__ keeping e as .what -/
def sRaise (C : Addr) (sp : Sp) (ta : TA) (W : WX) : TS := fun _ σ H => tMkO C sp [] ta σ H fun cls d H' => W cls d σ H'
theorem xd_nokt {fs : List (Str × V)} : NoKt (.xd fs) := by intro _ z; cases z
theorem wpx_raise {C D : Addr} {ta : TA} (SC : SupC K C D) (h : EvA K ta env fun ss => ∃ d, ss = [.val d] ∧ Z C d env) : WpX K W (sRaise C (spKE K D) ta W) env P Z := fun en w σ R O D hn hb hc hr =>
  h en w σ R _ fun ss vs w1 e1 h1 r1 => by
    obtain ⟨d, rfl, z⟩ := h1
    cases r1 with
    | cons rv rn =>
      cases rn
      rename_i v
      refine ⟨by simp, fun a ha => ⟨a, C, v, rfl, SC, upd_same, fun dx hdx hne => ⟨rfl, dx, [("what", v)], upd_same, ?_, ?_, ?_⟩⟩⟩
      · rw [upd_ne hne, upd_same]
      · rw [upd_ne hne] at hdx; exact hdx
      · rw [upd_ne hne] at hdx
        have eH : upd (del (upd (upd (upd w1.H a (exo a C none)) dx (exd dx [("what", v)])) a (exo a C (some dx))) a) dx (.xd [("what", v)]) = (w1.new dx (.xd [("what", v)]) hdx).H := by
          show _ = upd w1.H dx (.xd [("what", v)])
          funext b
          by_cases hb1 : b = dx
          · rw [hb1, upd_same, upd_same]
          · rw [upd_ne hb1, upd_ne hb1]
            by_cases hb2 : b = a
            · rw [hb2, del_same, ha]
            · rw [del_ne hb2, upd_ne hb2, upd_ne hb1, upd_ne hb2]
        rw [eH]
        have e2 : w.le (w1.new dx (.xd [("what", v)]) hdx) := e1.trans (Wd.le_new hdx)
        refine O C dx d v _ σ env e2.b R.len.symm R.an (R.push e2 ?_ (.val d)) upd_same z
        exact Dr.mono (Wd.le_new hdx).b (show Dr K w1.B d v from rv)
end
end DL

set_option Elab.async false
set_option linter.all false
set_option maxRecDepth 100000
set_option autoImplicit false
namespace DL
open PySem L2 PySem.Spec PyProof.Rows NdefX
/-! ### promises of what may raise -/
abbrev SpX := List Sl → (Sl → List Sl → Prop) → XP → Prop
def spX (K : PySem.W.Frag) (S : SpX) : Sp := fun vs H Q E => ∃ (en : En) (w : Wd) (as : List Sl) (R : Sl → List Sl → Prop) (Z : XP), en.args = vs ∧ w.H = H ∧ Rel K en w as (vs.map some) ∧ S as R Z ∧
  (∀ s v w' as', StS s → Same w.B w'.B → Rel K en w' (as' ++ [s]) (vs.map some ++ [some v]) → R s as' → Q v w'.H) ∧
  ∀ C dx d v w' as', Same w.B w'.B → Rel K en w' (as' ++ [.val d]) (vs.map some ++ [some v]) → w'.B dx = some (.xd [("what", v)]) → Z C d as' → E (.ref C) (some dx) w'.H
section
variable {Pr : Program} {wd : World} {K : PySem.W.Frag} {mg : Str → Option Value} {base : Heap}
/-- a def that may raise, by its body -/
theorem okX {x qual : Str} {st : Stmt} {f : Addr} {fd : FuncData} {N ps : List Str} {k : Nat} {S : SpX} (F : Fun K x qual st f fd) (Sc : FnScope N ps (defScope st)) (hl : ∀ as R Z, S as R Z → as.length = ps.length)
    (hb : ∀ (cdv : Value) (A : Around) (outer : List Env) (s : Shared) (H : Hp) (E : XK), Room k (A.deeper (envOfC qual (defScope st) s.heap.objs.size f cdv)) →
      ∃ t : WX → TS, (∀ W, Takes (cxOf (L2.CX Pr wd) Pr wd K mg base N qual (defScope st) f cdv A outer s H E) W → PSs (cxOf (L2.CX Pr wd) Pr wd K mg base N qual (defScope st) f cdv A outer s H E) (defBody st) (t W)) ∧
        ∀ W as R Z, S as R Z → WpX K W (t W) (as ++ List.replicate (N.length - ps.length) .un) { nx := fun e => R (.val .non) (ioS ps.length e), rt := fun s e => R s (ioS ps.length e) } fun C d e => Z C d (ioS ps.length e)) :
    FnOk Pr wd K mg base (L2.CX Pr wd) (k + 1) f fd ps (spX K S) := by
  have hvs : ∀ {en : En} {w : Wd} {as : List Sl} {vs : List V} {R : Sl → List Sl → Prop} {Z : XP}, Rel K en w as (vs.map some) → S as R Z → vs.length = ps.length := fun pr sp => by
    have h1 := hl _ _ _ sp
    have h2 := pr.len
    simp at h2; omega
  have hN : ps.length ≤ N.length := by
    have := congrArg List.length Sc.pre
    simp at this
    omega
  obtain ⟨oc, od, kV, doc, pm, an, cdv, ct, osl, rfl, lk, hcd⟩ := F.ex
  refine fn_of lk hcd Sc (fun vs H Q E h => ?_) (fun A outer s H vs Q E hr h => ?_)
  · obtain ⟨en, w, as, R, Z, _, _, pr, sp, _⟩ := h
    exact hvs pr sp
  · obtain ⟨t, ht, hw⟩ := hb cdv A outer s H E hr
    refine ⟨t (fun cls d _ H => E cls d H), ht _ (takes_of (E₁ := fun e' s'' => L2.CX Pr wd outer H s E e' s'') rfl rfl rfl rfl), ?_⟩
    obtain ⟨en, w, as, R, Z, ha, rfl, pr, sp, q, qx⟩ := h
    have hv := hvs pr sp
    have han : ∀ {m : Nat}, en.args.length ≤ m → ps.length ≤ m := fun z => by rw [ha, hv] at z; exact z
    exact hw _ as R Z sp en w (L2.start N vs) (rel_start pr hv hN) (fun C dx d v w' σ' env' sb hl' ha' R' hx z => qx C dx d v w' (ioS ps.length env') sb (rel_back (.val _) ha hv hl' (han ha') R') hx z) _
      (fun w' σ' env' sb R' n => q (.val .non) .non w' (ioS ps.length env') (.val _) sb (rel_back (.val _) ha hv R'.len.symm (han R'.an) (R'.push w'.rfl' .non (.val _))) n)
      (fun w' σ' env' _ _ n => n.elim) (fun w' σ' env' _ _ n => n.elim) fun s v w' σ' env' st sb hl' ha' R' z => q s v w' _ st sb (rel_back st ha hv hl' (han ha') R') z
end
/-! ### raise C(e) -/
/-- the exception class that the name x stands for; its __init__ stands in D -/
structure CalKE (Pr : Program) (wd : World) (K : PySem.W.Frag) (mg : Str → Option Value) (base : Heap) (x : Str) (C D : Addr) (k : Nat) : Prop where
  sup : SupC K C D
  ex : ∃ fI fd, PySem.W.findIn K (.ref C) "__init__" = some (some (.ref fI)) ∧ PySem.W.typeIn K (.ref fI) = some (.type "function") ∧ FnOk Pr wd K mg base CX0 k fI fd ["self", "what"] (spKE K D) ∧ Binds K fd ["self", "what"] [] ∧ mg x = some (.ref C)
theorem ps_raiseK {X : Cx} {W : WX} {x : Str} {C D : Addr} {k : Nat} {p pos rpos : Pos} {e : Expr} {es : List Expr} {ta : TA} (G : CalKE X.prog X.w X.K X.mg X.base x C D k) (tk : Takes X W) (hr : Room (k + 1) X.A) (hg : Gl X x) (ha : PA X (e :: es) ta) (hc : X.calm = true := by rfl)
    (hdb : (x == ("__debug__" : Str)) = false := by decide) (he : starEach (e :: es) X.env = (false, eval e X.env) :: starEach es X.env := by rfl) (hpl : (backTo pos (starEach es X.env)).any (·.1) = false := by rfl) :
    PS X (.Raise (some (.Call (.Name x p) (e :: es) [] pos)) none rpos) (sRaise C (spKE X.K D) ta W) := by
  obtain ⟨fI, fd, iC, tI, F, hb, hm⟩ := G.ex
  exact ps_raise hc tk (pmk_oex G.sup.oex iC tI F hr hb .nil pass0 hg hm ha hdb he hpl)
/-! ### C(e, ..), C's __init__ one that may raise -/
def tMakeS (C : Addr) (sp : Sp) (E : L2.St → XK) (t : TA) : TE := fun σ H Q => tMake C sp [] (E σ) t σ H Q
section
variable {X : Cx} {CX : CXT} {k : Nat} {f C : Addr} {fd : FuncData} {ps : List Str} {sp : Sp} {E : L2.St → XK} {x : Str} {p pos : Pos} {e : Expr} {es : List Expr} {t : TA} {ds : List Value} {dvs : List V}
theorem run_makeS {pins : List (Addr × Obj)} {σ : L2.St} {H : Hp} {s : Shared} {Q : VK} {us : List Value} {vs : List V} {E1 : XK} (M : Mk X.K C f) (F : FnOk X.prog X.w X.K X.mg X.base CX k f fd ps sp) (hr : Room (k + 1) X.A) (hb : Binds X.K fd ps ds) (hd : Vals dvs ds)
    (hx : PassesAt CX X σ E1) (I : Inv X pins σ H s) (r : Vals vs us)
    (h : ∀ x dx, H x = none → H dx = none → dx ≠ x → sp (.ref x :: (vs ++ dvs)) (upd (upd H dx (.own x)) x (.ins C dx [])) (fun v H2 => v = .non ∧ Q (.ref x) H2) E1) :
    wpAny (model X.prog X.w) X.A (call (.ref C) us) (EP X pins σ Q) X.xe s := by
  have hq := h (s.heap.objs.size + 1) s.heap.objs.size (I.hok.fresh (Nat.le_succ _)) (I.hok.fresh (Nat.le_refl _)) (Nat.ne_of_lt (Nat.lt_succ_self _))
  have I2 := Inv.made (C := C) I
  have r2 : Vals (V.ref (s.heap.objs.size + 1) :: (vs ++ dvs)) (Value.ref (s.heap.objs.size + 1) :: (us ++ ds)) := .cons rfl (r.append hd)
  have hl : (Value.ref (s.heap.objs.size + 1) :: us ++ ds).length = ps.length := by
    have e := r2.length
    rw [F.len _ _ _ _ hq] at e
    exact e.symm
  refine wpAny_call (make_map (f := f) I.kIn M.makes M.init (beq_iff_eq.mp M.fn) (codeAny_mono (F.run _ X.stack _ _ ⟨Value.ref (s.heap.objs.size + 1) :: us, []⟩ (Value.ref (s.heap.objs.size + 1) :: (us ++ ds)) _ _ E1 (hr.make C us [])
    (I2.env0.make C us []) (hb _ (Value.ref (s.heap.objs.size + 1) :: us) I2.kIn hl) r2 hq) fun r s' hq' => ?_))
  cases r with
  | error e => exact hx pins _ _ e s' I2 hq'
  | ok fl =>
    cases fl with
    | ret u =>
      obtain ⟨v, H', I3, rv, ev, q3⟩ := I2.after hq'
      subst ev
      exact ⟨rv, ⟨V.ref (s.heap.objs.size + 1), H', I3, rfl, q3⟩⟩
    | next => exact False.elim hq'
    | brk => exact False.elim hq'
    | cont => exact False.elim hq'
theorem pe_makeS (M : Mk X.K C f) (F : FnOk X.prog X.w X.K X.mg X.base CX k f fd ps sp) (hr : Room (k + 1) X.A) (hg : Gl X x) (hm : X.mg x = some (.ref C)) (hb : Binds X.K fd ps []) (hx : ∀ σ, PassesAt CX X σ (E σ))
    (ha : PA X (e :: es) t) (hdb : (x == ("__debug__" : Str)) = false := by decide) (he : starEach (e :: es) X.env = (false, eval e X.env) :: starEach es X.env := by rfl) (hpl : (backTo pos (starEach es X.env)).any (·.1) = false := by rfl) :
    PE X (.Call (.Name x p) (e :: es) [] pos) (tMakeS C sp E t) := by
  refine ⟨fun pins s σ H Q I h => ?_⟩
  refine wpAny_Call_Name_kw (ld_glob I hg hm ?_ hdb)
  refine PySem.W.callWith_K (h₀ := X.base) I.ok.mod.kin M.kp (thn (ha.run pos pins s σ H _ I h) fun us s1 ⟨vs, H1, I1, r, q⟩ => ⟨I1.kIn, ?_⟩) he hpl
  exact run_makeS M F hr hb .nil (hx σ) I1 r q
end
/-- a class whose __init__ may raise -/
structure CalMX (Pr : Program) (wd : World) (K : PySem.W.Frag) (mg : Str → Option Value) (base : Heap) (x : Str) (C : Addr) (k : Nat) (ps : List Str) (sp : Sp) : Prop where
  ex : ∃ f fd, Mk K C f ∧ FnOk Pr wd K mg base (L2.CX Pr wd) k f fd ps sp ∧ mg x = some (.ref C) ∧ Binds K fd ps []
theorem pe_mkX {X : Cx} {W : WX} {x : Str} {C : Addr} {k : Nat} {ps : List Str} {sp : Sp} {p pos : Pos} {e : Expr} {es : List Expr} {t : TA} (G : CalMX X.prog X.w X.K X.mg X.base x C k ps sp) (tk : Takes X W) (hr : Room (k + 1) X.A) (hg : Gl X x) (ha : PA X (e :: es) t)
    (hdb : (x == ("__debug__" : Str)) = false := by decide) (he : starEach (e :: es) X.env = (false, eval e X.env) :: starEach es X.env := by rfl) (hpl : (backTo pos (starEach es X.env)).any (·.1) = false := by rfl) :
    PE X (.Call (.Name x p) (e :: es) [] pos) (tMakeS C sp (WE W) t) := by
  obtain ⟨f, fd, M, F, hm, hb⟩ := G.ex
  exact pe_makeS M F hr hg hm hb (fun σ => passAt tk σ) ha hdb he hpl
/-! ### expressions that may raise -/
def EvX (K : PySem.W.Frag) (W : WX) (te : TE) (env : List Sl) (P : Sl → Prop) (Z : XP) : Prop := ∀ (en : En) (w : Wd) (σ : TSt), Rel K en w env σ → WOk K en w Z W → ∀ Q : VK, (∀ s v w', w.le w' → P s → SlN K w w' s v → Q v w'.H) → te σ w.H Q
section
variable {K : PySem.W.Frag} {W : WX} {Z : XP} {env : List Sl} {P : Sl → Prop} {Pp : Post} {w w' : Wd} {te : TE} {tA : TA}
theorem evx_of (h : EvE K te env P) : EvX K W te env P Z := fun en w σ R _ Q q => h en w σ R Q q
theorem wpx_asg {i : Nat} (h : EvX K W te env (fun s => StS s ∧ Pp.nx (env.set i s)) Z) : WpX K W (tAsg te (gName i)) env Pp Z := fun en w σ R O D hn _ _ _ =>
  h en w σ R O _ fun s v w1 e1 h1 r1 => by
    obtain ⟨st, p⟩ := h1
    cases st with
    | val d => exact hn w1 _ _ e1.b ((R.grow e1).setVal r1) p
    | own o => exact hn w1 _ _ e1.b (R.setOwn e1 r1) p
theorem evx_make {C : Addr} {S : SpX} (h : EvA K tA env fun ss => ∃ ts, Paired Co ss ts ∧ S (.io (.ins C []) :: ts) (fun s as' => s = .val .non ∧ ∃ t, as'[0]? = some (.io t) ∧ P (.own t)) fun C' d _ => Z C' d env) : EvX K W (tMakeS C (spX K S) (WE W) tA) env P Z := fun en w σ R O Q q =>
  h en w σ R _ fun ss vs w1 e1 h1 r1 => by
    obtain ⟨ts, c, p⟩ := h1
    intro x dx hx hdx hne
    rw [List.append_nil]
    have hx2 : (w1.lay dx (.own x) hdx).H x = none := by
      show upd w1.H dx (.own x) x = none
      rw [upd_ne (fun z => hne z.symm)]; exact hx
    let w2 : Wd := (w1.lay dx (.own x) hdx).lay x (.ins C dx []) hx2
    have e2 : w1.le w2 := (Wd.le_lay hdx).trans (Wd.le_lay hx2)
    obtain ⟨hl, hk⟩ := coA (us := V.ref x :: vs) c r1
    refine ⟨⟨w1, .ref x :: vs⟩, w2, .io (.ins C []) :: ts, _, _, rfl, rfl, ⟨fun i => if i = 0 then [x] else [], e2, by simp [hl], by simp [hl], fun i t o a b => ?_, fun i j p _ _ z1 z2 => ?_⟩, p, fun s v w' as' st sb R' z => ?_, fun C' dx' d v w' as' sb R' hx z => ?_⟩
    · cases i with
      | zero =>
        simp at a b; subst a b
        refine ⟨⟨_, rfl, .ins upd_same rfl .nil, by simp, fun q z => ?_⟩, rfl⟩
        simp at z; subst z
        exact ⟨hx, (show w1.B q = none from Wd.freeB hx)⟩
      | succ i =>
        rw [if_neg (by omega)]
        exact (hk i t o (by simpa using a) (by simpa using b) (i + 1)).grow e2
    · by_cases h1 : i = 0
      · by_cases h2 : j = 0
        · rw [h1, h2]
        · rw [if_neg h2] at z2; simp at z2
      · rw [if_neg h1] at z1; simp at z1
    · obtain ⟨rfl, t, ht, pt⟩ := z
      have hr := (Rel.last (.val _) R')
      cases hr
      refine ⟨rfl, q (.own t) (.ref x) w' (e1.trans R'.le) pt ?_⟩
      obtain ⟨o, fp, h1, h2⟩ := R'.at (i := 0) (s := .io t) (by
        rw [List.getElem?_append_left (by cases as' with | nil => simp at ht | cons _ _ => simp)]; exact ht)
      obtain ⟨⟨v', ev, ow⟩, ea⟩ := h2
      simp at h1; subst h1; cases ev
      obtain ⟨a1, a2, a3⟩ := ow
      exact ⟨fp, a1, a2, fun p z => ⟨e1.h.free (a3 p z).1, (a3 p z).2⟩⟩
    · have le : w.le w' := e1.trans R'.le
      have hr : SlN K w1 w' (.val d) v := Rel.last (.val _) R'
      exact O C' dx' d v w' σ env le.b R.len.symm R.an (R.push le (show SlN K w w' (.val d) v from hr) (.val d)) hx z
end
end DL

set_option Elab.async false
set_option linter.all false
set_option maxRecDepth 100000
set_option autoImplicit false
namespace DL
open PySem L2 PySem.Spec PyProof.Rows NdefX
/-! ### a caught exception: e.what, isinstance(e, C) -/
def tXw (K : PySem.W.Frag) (a : Addr) (cls : Value) (d : Option Addr) (n : Str) (te : TE) : TE := fun σ H Q => te σ H fun x H1 => x = .ref a ∧ ∃ (C dd : Addr) (fs : List (Str × V)) (v : V), cls = .ref C ∧ XfC K C ∧ PySem.W.findIn K (.ref C) n = some none ∧ d = some dd ∧ H1 dd = some (.xd fs) ∧ fs.lookup n = some v ∧ Q v H1
theorem pe_xw {X : Cx} {a : Addr} {oe : Obj} {cls : Value} {d : Option Addr} {pn : List (Addr × Obj)} {e : Expr} {te : TE} {pos : Pos} {n : Str} (hz : Zc cls d oe) (hf : ∃ vs, oe.data = .fields vs) (he : PE (X.suite a ((a, oe) :: pn)) e te)
    (hb : attributeBase e n X.env (eval e X.env) = eval e X.env := by rfl) : PE (X.suite a ((a, oe) :: pn)) (.Attribute e n pos) (tXw X.K a cls d n te) := by
  refine ⟨fun pins s σ H Q I h => ?_⟩
  refine attr_of hb (thn (he.run pins s σ H _ I h) fun u s1 hh => ?_)
  obtain ⟨x, H1, I1, rx, ex, C, dd, fs, v, ec, T, hno, ed, ea, l, q⟩ := hh
  subst ex
  obtain rfl : u = Value.ref a := rx
  subst ec
  subst ed
  obtain ⟨ha, _⟩ := I1.pin (a, oe) (List.mem_append_left _ List.mem_cons_self)
  obtain ⟨vs, hd⟩ := hf
  have hx : ObjOk X.prog X.w H1 s1.heap dd (.xd fs) := I1.hok dd _ ea
  obtain ⟨mA, hns, hr⟩ := hx
  obtain ⟨od, ho, hl⟩ := lookIn_ns hns
  obtain ⟨u, hu, ru⟩ := RelO.some_of (v := v) (o := mA n) (by rw [← l]; exact hr n)
  have J : PySem.W.InstAt s1.heap a oe C (some od) := ⟨ha, hz.1, by unfold PySem.W.notCls; rw [hd] <;> rfl, by rw [hz.2]; exact ho⟩
  exact HandSPX.exc_get I1.kIn J T.ga T.gg T.exC (PySem.W.findObj_own T.hdC hno rfl (by rw [hl, hu])) (handed_of ru) ⟨v, H1, I1.tok _, ru, q⟩
def rIsX (K : PySem.W.Frag) (a : Addr) (cls : Value) (d : Option Addr) : List V → Hp → VK → Prop := fun xs H Q => ∃ (C dd C2 : Addr) (fs : List (Str × V)) (b : Bool), xs = [.ref a, .ref C2] ∧ cls = .ref C ∧ d = some dd ∧ H dd = some (.xd fs) ∧ ExcC K C ∧ PySem.W.kitOne K (.ref C) (.ref C2) = some b ∧ Q (.bl b) H
theorem call_isX {X : Cx} {a : Addr} {oe : Obj} {cls : Value} {d : Option Addr} {pn : List (Addr × Obj)} (hz : Zc cls d oe) (hf : ∃ vs, oe.data = .fields vs) : CallR (X.suite a ((a, oe) :: pn)) (.builtin "isinstance") (rIsX X.K a cls d) := by
  intro pins s σ H xs us Q I r h
  obtain ⟨C, dd, C2, fs, b, rfl, ec, ed, ea, T, e, q⟩ := h
  subst ec ed
  cases r with
  | cons rx rr =>
    cases rr with
    | cons rt rr =>
      cases rr
      cases rx
      cases rt
      obtain ⟨hget, _⟩ := I.pin (a, oe) (List.mem_append.mpr (.inl List.mem_cons_self))
      obtain ⟨vs, hv⟩ := hf
      have hx : ObjOk X.prog X.w H s.heap dd (.xd fs) := I.hok dd _ ea
      obtain ⟨mA, hns, hr⟩ := hx
      obtain ⟨od, ho, hl⟩ := lookIn_ns hns
      have J : PySem.W.InstAt s.heap a oe C (some od) := ⟨hget, hz.1, by unfold PySem.W.notCls; rw [hv] <;> rfl, by rw [hz.2]; exact ho⟩
      have hcl : (PySem.W.clsIn X.K C).isSome = true := by
        obtain ⟨cd, hc, _⟩ := PySem.W.any_some T.hd
        rw [hc]; rfl
      exact PySem.W.kia_one (PySem.W.kitx_exc hcl T.hg T.hk T.hs T.ha T.hn T.ht T.hm) I.kIn J e (fun z => nomatch z) fun tk => ⟨.bl b, H, I.kept (t' := tk) fun _ _ z => z, rfl, q⟩
section
variable {K : PySem.W.Frag} {W : WX} {Z Z' : XP} {env : List Sl} {P : Sl → Prop} {Pp : Post} {w w' : Wd} {te : TE} {a dx C : Addr}
theorem ev_what (T : XfC K C) (hno : PySem.W.findIn K (.ref C) "what" = some none) (h : EvE K te env fun s => ∃ d, s = .val (.exc a dx d) ∧ P (.val d)) : EvE K (tXw K a (.ref C) (some dx) "what" te) env P := fun en w σ R Q q =>
  h en w σ R _ fun s v w1 e1 h1 r1 => by
    obtain ⟨d, rfl, p⟩ := h1
    cases r1 with
    | exc hb r => exact ⟨rfl, C, dx, _, _, rfl, T, hno, rfl, w1.sub _ _ hb, rfl, q (.val d) _ w1 e1 p r⟩
theorem ra_isX {C2 : Addr} {b : Bool} {d : D} (T : ExcC K C) (e : PySem.W.kitOne K (.ref C) (.ref C2) = some b) (p : P (.val (.bl b))) : RaP K (rIsX K a (.ref C) (some dx)) [.val (.exc a dx d), .val (.ref C2)] P := fun w wx vs e1 r Q q => by
  cases r with
  | cons r t =>
    cases t with
    | cons r2 t2 =>
      cases t2
      cases r with
      | exc hb r =>
        cases r2
        exact ⟨C, dx, C2, _, b, rfl, rfl, rfl, wx.sub _ _ hb, T, e, q _ _ wx wx.rfl' p (.bl _)⟩
/-! ### try: body, except c as n: suite -/
def sTry (K : PySem.W.Frag) (c : Value) (i : Nat) (tb : WX → TS) (ts : Addr → Value → Option Addr → TS) (Wout : WX) : TS := fun D σ H => tb (wAs K c i ts Wout D) D σ H
theorem wpx_try {c : Value} {i : Nat} {tb : WX → TS} {ts : Addr → Value → Option Addr → TS} (Z' : XP) (h : ∀ W', WpX K W' (tb W') env Pp Z')
    (hs : ∀ C d env', Z' C d env' → ∃ b, PySem.W.exmOne K (.ref C) c = some b ∧
      (b = true → ∀ a dx, Wp K (ts a (.ref C) (some dx)) (env'.set i (.val (.exc a dx d))) { nx := fun e => Pp.nx (e.set i .un), rt := Pp.rt, bk := fun e => Pp.bk (e.set i .un), ct := fun e => Pp.ct (e.set i .un) }) ∧
      (b = false → Z C d env')) : WpX K W (sTry K c i tb ts W) env Pp Z := fun en w σ R O D hn hb hc hr =>
  h _ en w σ R (fun C dx d v w' σ' env' sb hl ha R' hx z => by
    obtain ⟨b, e, t, f⟩ := hs C d env' z
    refine ⟨b, e, fun hb1 a haH => ?_, fun hb1 => O C dx d v w' σ' env' sb hl ha R' hx (f hb1)⟩
    have rd : SlN K en.w0 w' (.val d) v := Rel.last (.val _) R'
    have R1 : Rel K en w' (env'.set i (.val (.exc a dx d))) (σ'.set i (some (.ref a))) := ((Rel.pop (j := 0) (.val d) R' ha).2).setVal (.exc hx rd)
    exact t hb1 a dx en w' _ R1 _ (fun w2 σ2 env2 s2 R2 n2 => hn w2 _ _ (sb.trans s2) R2.setUn n2) (fun w2 σ2 env2 s2 R2 n2 => hb w2 _ _ (sb.trans s2) R2.setUn n2) (fun w2 σ2 env2 s2 R2 n2 => hc w2 _ _ (sb.trans s2) R2.setUn n2)
      (fun s v2 w2 σ2 env2 st s2 hl2 ha2 R2 n2 => hr s v2 w2 σ2 env2 st (sb.trans s2) hl2 ha2 R2 n2)) D hn hb hc hr
/-- a try whose own exceptions are all caught, in a def that lets none out -/
theorem wp_try {c : Value} {i : Nat} {tb : WX → TS} {ts : Addr → Value → Option Addr → TS} (Z' : XP) (h : ∀ W', WpX K W' (tb W') env Pp Z')
    (hs : ∀ C d env', Z' C d env' → PySem.W.exmOne K (.ref C) c = some true ∧
      ∀ a dx, Wp K (ts a (.ref C) (some dx)) (env'.set i (.val (.exc a dx d))) { nx := fun e => Pp.nx (e.set i .un), rt := Pp.rt, bk := fun e => Pp.bk (e.set i .un), ct := fun e => Pp.ct (e.set i .un) }) : Wp K (sTry K c i tb ts fun _ _ _ _ => False) env Pp := fun en w σ R D hn hb hc hr =>
  wpx_try (Z := fun _ _ _ => False) Z' h (fun C d env' z => ⟨true, (hs C d env' z).1, fun _ => (hs C d env' z).2, fun e => nomatch e⟩) en w σ R (fun _ _ _ _ _ _ _ _ _ _ _ _ z => z) D hn hb hc hr
end
theorem ps_tryK {X : Cx} {x n : Str} {c : Value} {i : Nat} {body suite : List Stmt} {b₀ : Stmt} {np pos pos' : Pos} {tb : WX → TS} {ts : Addr → Value → Option Addr → TS} {Wout : WX}
    (hc : Names X x c) (tk : Takes X Wout)
    (hb : ∀ (W : WX) (pn : List (Addr × Obj)) (xe : Value → Shared → Prop), Takes (X.tr pn xe) W → PassesOwn (model X.prog X.w) X.A X.env xe → PSs (X.tr pn xe) body (tb W))
    (hsu : ∀ (a : Addr) (oe : Obj) (cls : Value) (d : Option Addr) (pn : List (Addr × Obj)), Zc cls d oe → (∃ vs, oe.data = .fields vs) → PSs (X.suite a ((a, oe) :: pn)) (b₀ :: suite) (ts a cls d))
    (hN : X.N.Nodup) (hi : X.N[i]? = some n) (hln : X.env.kindOf n = some .local) (hs : X.stack = X.env :: X.outer := by rfl) (hf : X.env.frame = some X.env.locals := by rfl) :
    PS X (.Try body [.ExceptHandler (some (.Name x np)) (some n) (b₀ :: suite) pos'] [] [] pos) (sTry X.K c i tb ts Wout) :=
  ps_try_as hs hf hN hi hln hc tk hb hsu
theorem takes0 {X : Cx} : Takes X (fun _ _ _ _ => False) := fun _ _ x => by
  obtain ⟨_, _, _, _, _, _, _, _, _, _, _, _, _, _, _, _, z⟩ := x
  exact z.elim
/-- where nothing is raised -/
theorem ev_ofX {K : PySem.W.Frag} {env : List Sl} {P : Sl → Prop} {te : TE} (h : EvX K (fun _ _ _ _ => False) te env P fun _ _ _ => False) : EvE K te env P := fun en w σ R Q q => h en w σ R (fun _ _ _ _ _ _ _ _ _ _ _ _ z => z) Q q
theorem ev_makeN {K : PySem.W.Frag} {env : List Sl} {P : Sl → Prop} {tA : TA} {C : Addr} {S : SpX} (h : EvA K tA env fun ss => ∃ ts, Paired Co ss ts ∧ S (.io (.ins C []) :: ts) (fun s as' => s = .val .non ∧ ∃ t, as'[0]? = some (.io t) ∧ P (.own t)) fun _ _ _ => False) : EvE K (tMakeS C (spX K S) (WE fun _ _ _ _ => False) tA) env P :=
  ev_ofX (evx_make h)
end DL

set_option Elab.async false
set_option linter.all false
set_option maxRecDepth 100000
set_option autoImplicit false
namespace DL
open PySem L2 PySem.Spec PyProof.Rows NdefX
/-! ### isinstance(e, (T1, T2)), built-in types -/
theorem b_isiT {X : Cx} {K : PySem.W.Frag} (hK : X.K = K := by rfl) : CallR X (.builtin "isinstance") (rIsiT K) := hK ▸ call_isiT
def kitB2 (n a b : String) : Option Bool := match kitB n a with
  | some true => some true
  | some false => kitB n b
  | none => none
theorem kitB2_ok {K : PySem.W.Frag} {n a b : String} {r : Bool} (h : kitB2 n a b = some r) : PySem.W.kitAny K (.type n) [.type a, .type b] = some r := by
  unfold kitB2 at h
  split at h
  · rename_i e
    cases h
    exact kitAny_cons (kit_ty e) (fun z => nomatch z) fun _ => rfl
  · rename_i e
    refine kitAny_cons (kit_ty e) (fun _ => kitAny_cons (kit_ty h) (fun z => ?_) fun z => z) (fun z => nomatch z)
    rw [z]; rfl
  · cases h
section
variable {K : PySem.W.Frag} {env : List Sl} {P : Sl → Prop} {te : TE}
theorem ev_isT2 {a b : String} (h : EvE K te env fun s => ∃ d n r, s = .val d ∧ tyD d = some n ∧ kitB2 n a b = some r ∧ P (.val (.bl r))) :
    EvE K (tCB (rIsiT K) (tCons te (tCons (tTup (tCons (tC (.ty a)) (tCons (tC (.ty b)) tNil))) tNil))) env P := fun en w σ R Q q =>
  h en w σ R _ fun s v w1 e1 h1 r1 => by
    obtain ⟨d, n, r, rfl, ht, hk, p⟩ := h1
    refine ⟨by show 2 ≤ sizeLine; rw [sizeLine_eq]; omega, fun tp htp => ?_⟩
    have e2 := Wd.le_new (o := .tup [.ty a, .ty b]) htp
    exact ⟨v, tp, [.ty a, .ty b], .type n, [.type a, .type b], r, rfl, upd_same, .cons (.ty a) (.cons (.ty b) .nil), tyD_ok (w := w1.new tp (.tup [.ty a, .ty b]) htp) (Dr.mono e2.b (show Dr K w1.B d v from r1)) ht, kitB2_ok hk, q (.val (.bl r)) _ (w1.new tp _ htp) (e1.trans e2) p (.bl _)⟩
end
theorem hu64s {k : Nat} {A : Around} {h : Option Value} (r : Room k A) : (A.mark h).units + 64 < cLine := r.units
theorem hu65s {k : Nat} {A : Around} {h : Option Value} (r : Room k A) : (A.mark h).units + 65 < cLine := by have := r.un; exact (show A.units + 65 < cLine by omega)
/-! ### the exception classes, as K holds them -/
theorem binds_df {K : PySem.W.Frag} {fd : FuncData} {ps : List Str} {T : Addr} {o : Obj} {its : List Value} {n : Nat} (lT : K.lookup T = some o) (oT : o.data = .seq its.toArray n)
    (h : ∀ us : List Value, us.length = ps.length → ∃ k, bindArgs fd ⟨us, []⟩ = seqItems? (.ref T) >>= k ∧ k (some its.toArray) = pure (ps.zip us)) : Binds K fd ps [] := fun s us X hl => by
  rw [List.append_nil] at hl ⊢
  obtain ⟨k, e1, e2⟩ := h us hl
  refine BindsTo.of_looks fun M => ?_
  rw [e1]
  exact looks_items X lT oT (.of_pure e2)
theorem supC_mk {K : PySem.W.Frag} {C D N : Addr} {nm q : Str} {bs bm sub : List Value} {sn : List Str} {ab : Bool} {col : Option Bool} {dd : Option Addr} {k0 k1 k2 k3 k5 : Option Value}
    (hC : K.lookup C = some (excClassObj nm q C N bs bm true sn sub ab col dd k0 k1 k2 k3 k5 "ValueError.__new__")) (hbm : PySem.HandSPX.refsVE bm = true)
    (sa : PySem.W.findIn K (.ref C) "__setattr__" = some (some (.builtin "object.__setattr__"))) (ex : PySem.W.subIn K (.ref C) (.type "BaseException") = some true) (ty : PySem.W.typeIn K (.ref C) = some (.type "type")) (kc : PySem.W.keepIn K (.ref C) = true)
    (mr : PySem.W.mroIn K C (.ref D) = some true) (su : PySem.W.ks_superIn K C D "__init__" = some (some (.builtin "ValueError.__init__"))) (ve : PySem.W.subIn K (.ref C) (.type "ValueError") = some true) (wh : PySem.W.findIn K (.ref C) "what" = some none) : SupC K C D :=
  ⟨⟨⟨_, _, _, _, _, _, _, _, _, _, _, _, _, _, _, hC, hbm⟩, sa, ex, ty, kc⟩, mr, su, ve, wh⟩
end DL

set_option Elab.async false
set_option linter.all false
set_option maxRecDepth 100000
set_option autoImplicit false
namespace DL
open PySem L2
/-! ### expressions that give data and may change trees of the frame on the way -/
def EvF (K : PySem.W.Frag) (te : TE) (env : List Sl) (Pf : D → List Sl → Prop) : Prop := ∀ (en : En) (w : Wd) (σ : TSt), Rel K en w env σ → ∀ Q : VK,
  (∀ d v (w' : Wd) env', Same w.B w'.B → Dr K w'.B d v → Rel K en w' env' σ → Pf d env' → Q v w'.H) → te σ w.H Q
def EvFA (K : PySem.W.Frag) (tA : TA) (env : List Sl) (Pa : List D → List Sl → Prop) : Prop := ∀ (en : En) (w : Wd) (σ : TSt), Rel K en w env σ → ∀ Q : List V → Hp → Prop,
  (∀ ds vs (w' : Wd) env', Same w.B w'.B → DrA K w'.B ds vs → Rel K en w' env' σ → Pa ds env' → Q vs w'.H) → tA σ w.H Q
def EvFT (K : PySem.W.Frag) (tt : TT) (env : List Sl) (Pb : Bool → List Sl → Prop) : Prop := ∀ (en : En) (w : Wd) (σ : TSt), Rel K en w env σ → ∀ Q : Bool → Hp → Prop,
  (∀ b (w' : Wd) env', Same w.B w'.B → Rel K en w' env' σ → Pb b env' → Q b w'.H) → tt σ w.H Q
section
variable {K : PySem.W.Frag} {env : List Sl} {Pp : Post} {w w' : Wd} {te ta tb tr : TE} {tt : TT} {tA : TA} {en : En} {Pf : D → List Sl → Prop} {Pa : List D → List Sl → Prop} {Pb : Bool → List Sl → Prop} {t u : TS}
theorem ef_of (h : EvE K te env fun s => ∃ d, Frz s d ∧ Pf d env) : EvF K te env Pf := fun en w σ R Q q =>
  ev_frz (P := fun s => ∃ d, s = .val d ∧ Pf d env) (h.imp fun s ⟨d, f, p⟩ => ⟨d, f, d, rfl, p⟩) en w σ R _ fun s v w1 e1 p1 r1 => by
    obtain ⟨d, rfl, p⟩ := p1
    exact q d v w1 env e1.b r1 (R.grow e1) p
theorem ef_em (h : EvM K te env fun s env' => env'.length = env.length ∧ ∃ d, s = .val d ∧ Pf d env') : EvF K te env Pf := fun en w σ R Q q =>
  h en w σ R _ fun s v w1 env' st sb R1 p => by
    obtain ⟨hl, d, rfl, p⟩ := p
    exact q d v w1 env' sb (show SlN K en.w0 w1 (.val d) v from Rel.last (.val _) R1) (Rel.pop (j := 0) (.val _) R1 (by rw [hl]; exact R.an)).2 p
theorem ef_op {r : R2} (h : EvF K ta env fun d1 env1 => EvF K tb env1 fun d2 env2 => RvP K r (.val d1) (.val d2) fun s => ∃ d, s = .val d ∧ Pf d env2) : EvF K (tOp r ta tb) env Pf := fun en w σ R Q q =>
  h en w σ R _ fun d1 v1 w1 env1 s1 r1 R1 p1 => p1 en w1 σ R1 _ fun d2 v2 w2 env2 s2 r2 R2 p2 =>
    p2 w2 w2 v1 v2 w2.rfl' (Dr.mono s2 r1) r2 _ fun s v w3 e3 p3 r3 => by
      obtain ⟨d, rfl, p⟩ := p3
      exact q d v w3 env2 (s1.trans (s2.trans e3.b)) r3 (R2.grow e3) p
theorem efa_nil (h : Pa [] env) : EvFA K tNil env Pa := fun en w σ R Q q => q [] [] w env (Same.refl _) .nil R h
theorem efa_cons (h : EvF K te env fun d env1 => EvFA K tA env1 fun ds env2 => Pa (d :: ds) env2) : EvFA K (tCons te tA) env Pa := fun en w σ R Q q =>
  h en w σ R _ fun d v w1 env1 s1 r1 R1 p1 => p1 en w1 σ R1 _ fun ds vs w2 env2 s2 r2 R2 p2 => q (d :: ds) (v :: vs) w2 env2 (s1.trans s2) (.cons (Dr.mono s2 r1) r2) R2 p2
theorem sla_dra {ds : List D} {vs : List V} {w0 : Wd} (h : DrA K w.B ds vs) : SlA K w0 w (ds.map .val) vs := by
  induction ds generalizing vs with
  | nil => cases h; exact .nil
  | cons d r ih =>
    cases h with
    | cons a b => exact .cons a (ih b)
theorem ef_cb {r : List V → Hp → VK → Prop} (h : EvFA K tA env fun ds env' => RaP K r (ds.map .val) fun s => ∃ d, s = .val d ∧ Pf d env') : EvF K (tCB r tA) env Pf := fun en w σ R Q q =>
  h en w σ R _ fun ds vs w1 env1 s1 r1 R1 p1 => p1 w1 w1 vs w1.rfl' (sla_dra r1) _ fun s v w2 e2 p2 r2 => by
    obtain ⟨d, rfl, p⟩ := p2
    exact q d v w2 env1 (s1.trans e2.b) r2 (R1.grow e2) p
theorem ef_lst (h : EvFA K tA env fun ds env' => ds.length ≤ 1000 ∧ Pf (.lst ds) env') : EvF K (tLst tA) env Pf := fun en w σ R Q q =>
  h en w σ R _ fun ds vs w1 env1 s1 r1 R1 p1 => by
    refine ⟨by rw [← r1.len]; exact Nat.le_of_lt (small1000 p1.1), fun pp hp => ?_⟩
    exact q _ _ (w1.new pp (.lst vs) hp) env1 (s1.trans (Wd.le_new hp).b) (Dr.lst (by first | exact upd_same | exact .inl upd_same | exact .inl (.inl upd_same)) (r1.mono (Wd.le_new hp).b)) (R1.grow (Wd.le_new hp)) p1.2
/-- xs.pop(), a flat list -/
theorem ef_pop (h : EvN K tr env fun i s f => ∃ (ds : List D) (d : D), s = .lst ((ds ++ [d]).map .imm) ∧ Pf d (putS env i (f (.lst (ds.map .imm))))) : EvF K (tBM0 K "list" rPop tr) env Pf := fun en w σ R Q q =>
  h en w σ R _ fun i t s f vr u w1 e1 et hv a p => by
    obtain ⟨ds, d, rfl, p⟩ := p
    have R1 := R.grow e1
    obtain ⟨fs, ts⟩ := R1.nodeTR et hv a
    cases ts with
    | @lst pp _ vs fp hp rs =>
      obtain ⟨rfl, rd⟩ := rs.imms_inv
      have key : ∃ vs' y, vs = vs' ++ [y] ∧ DrA K w1.B ds vs' ∧ Dr K w1.B d y := by
        clear p a
        have : ∀ (ds : List D) (vs : List V), DrA K w1.B (ds ++ [d]) vs → ∃ vs' y, vs = vs' ++ [y] ∧ DrA K w1.B ds vs' ∧ Dr K w1.B d y := by
          intro ds
          induction ds with
          | nil =>
            intro vs h
            cases h with
            | cons a b => cases b; exact ⟨[], _, rfl, .nil, a⟩
          | cons x r ih =>
            intro vs h
            cases h with
            | cons a b =>
              obtain ⟨vs', y, rfl, h1, h2⟩ := ih _ b
              exact ⟨_ :: vs', y, rfl, .cons a h1, h2⟩
        exact this ds vs rd
      obtain ⟨vs', y, rfl, rd1, ry⟩ := key
      refine ⟨.inl ⟨rfl, _, .inl (.inl hp)⟩, pp, vs' ++ [y], y, rfl, rfl, hp, by simp, ?_⟩
      obtain ⟨w3, h3, b3, R3⟩ := R1.write (s' := .lst (ds.map .imm)) (o := .lst (vs' ++ [y])) (o' := .lst (vs' ++ [y]).dropLast) et hv a (fun fs ts nd no => by
        cases ts with
        | @lst _ _ vs2 fp2 hp2 rs2 =>
          rw [hp] at hp2; cases hp2
          refine ⟨by simp, fun H' q1 q2 => ⟨[pp], .lst q1 (by rw [List.dropLast_concat]; exact TRs.imms rd1), by simp, fun q z => ?_⟩⟩
          have z1 : q = pp := by simpa using z
          subst z1
          exact ⟨(no q (by simp)).1, (no q (by simp)).2, .inl (by simp)⟩)
      rw [← h3]
      exact q d y w3 _ (e1.b.trans b3) (Dr.mono b3 ry) R3 p
/-! #### statements -/
theorem wpf_asg {i : Nat} (h : EvF K te env fun d env' => Pp.nx (env'.set i (.val d))) : Wp K (tAsg te (gName i)) env Pp := fun en w σ R D hn _ _ _ =>
  h en w σ R _ fun d v w1 env' sb r1 R1 p => hn w1 _ _ sb (R1.setVal r1) p
theorem wpf_ret (h : EvF K te env fun d env' => Pp.rt (.val d) env') : Wp K (tRet te) env Pp := fun en w σ R D _ _ _ hr =>
  h en w σ R _ fun d v w1 env' sb r1 R1 p => hr (.val d) v w1 σ env' (.val _) sb R1.len.symm R1.an (R1.push w1.rfl' (show SlN K w1 w1 (.val d) v from r1) (.val _)) p
theorem wpf_if (h : EvFT K tt env fun b env' => (b = true → Wp K t env' Pp) ∧ (b = false → Wp K u env' Pp)) : Wp K (tIfS tt t u) env Pp := fun en w σ R D hn hb hc hr =>
  h en w σ R _ fun b w1 env' sb R1 h1 => by
    cases b with
    | true => exact h1.1 rfl en w1 σ R1 D (hn.back sb) (hb.back sb) (hc.back sb) (hr.back sb)
    | false => exact h1.2 rfl en w1 σ R1 D (hn.back sb) (hb.back sb) (hc.back sb) (hr.back sb)
theorem eft_of (h : EvT K tt env fun b => Pb b env) : EvFT K tt env Pb := fun en w σ R Q q => h en w σ R _ fun b w1 e1 p => q b w1 env e1.b (R.grow e1) p
theorem eft_test (h : EvF K te env fun d env' => ∃ b, d = .bl b ∧ Pb b env') : EvFT K (tTest te) env Pb := fun en w σ R Q q =>
  h en w σ R _ fun d v w1 env' sb r1 R1 p => by
    obtain ⟨b, rfl, p⟩ := p
    cases r1
    exact ⟨b, rfl, q b w1 env' sb R1 p⟩
theorem eft_and {t1 t2 : TT} (h : EvFT K t1 env fun b env' => (b = false → Pb false env') ∧ (b = true → EvFT K t2 env' Pb)) : EvFT K (tAnd t1 t2) env Pb := fun en w σ R Q q =>
  h en w σ R _ fun b w1 env' sb R1 p => by
    cases b with
    | false => exact q false w1 env' sb R1 (p.1 rfl)
    | true => exact p.2 rfl en w1 σ R1 _ fun b2 w2 env2 s2 R2 p2 => q b2 w2 env2 (sb.trans s2) R2 p2
theorem eft_or {t1 t2 : TT} (h : EvFT K t1 env fun b env' => (b = true → Pb true env') ∧ (b = false → EvFT K t2 env' Pb)) : EvFT K (tOr t1 t2) env Pb := fun en w σ R Q q =>
  h en w σ R _ fun b w1 env' sb R1 p => by
    cases b with
    | true => exact q true w1 env' sb R1 (p.1 rfl)
    | false => exact p.2 rfl en w1 σ R1 _ fun b2 w2 env2 s2 R2 p2 => q b2 w2 env2 (sb.trans s2) R2 p2
end
end DL

set_option Elab.async false
set_option linter.all false
set_option maxRecDepth 100000
set_option autoImplicit false
namespace DL
open PySem L2
/-! ### a comprehension whose items change trees of the frame -/
def brw : Sl → Bool | .bor _ => true | .scr _ => true | .brt _ => true | _ => false
section
variable {K : PySem.W.Frag} {en en' : En} {w w' w3 : Wd} {env env2 env3 : List Sl} {σ σ' : TSt} {F F3 : Nat → List Addr}
/-- one's own nodes left out of the frame's world: an object beside them is kept -/
theorem RelF.guard (R : RelF K en w env σ F) {p : Addr} (hp : ∀ i, i < env.length → ¬ p ∈ F i) : ∃ en' : En, en'.args = en.args ∧ en.w0.le en'.w0 ∧ en'.w0.H p = w.H p ∧ en'.w0.B = w.B ∧ RelF K en' w env σ F := by
  have all : ∀ q, q ∈ (List.range env.length).flatMap F ↔ ∃ i, i < env.length ∧ q ∈ F i := fun q => by simp [List.mem_flatMap]
  have sl : ∀ i, i < env.length → ∃ s o, env[i]? = some s ∧ σ[i]? = some o ∧ SlS K en w i s o (F i) := fun i hi => by
    obtain ⟨s, o, a, b⟩ := slot_at hi R.len
    exact ⟨s, o, a, b, R.sl i s o a b⟩
  have own : ∀ q, q ∈ (List.range env.length).flatMap F → en.w0.H q = none ∧ w.B q = none := fun q hq => by
    obtain ⟨i, hi, z⟩ := (all q).mp hq
    obtain ⟨s, o, _, _, h⟩ := sl i hi
    exact (h.fp q z).2
  obtain ⟨w0, hB, h1, h2, hle⟩ := carve_world w ((List.range env.length).flatMap F) fun q hq => (own q hq).2
  have le0 : en.w0.le w0 := ⟨by rw [hB]; exact R.le.b, fun q o e => by
    have : ¬ q ∈ (List.range env.length).flatMap F := fun z => by rw [(own q z).1] at e; cases e
    rw [h2 q this]; exact R.le.h q o e, fun q o e => by rw [hB]; exact R.le.f q o e⟩
  refine ⟨⟨w0, en.args⟩, rfl, le0, h2 p fun z => ?_, hB, ⟨hle, R.len, R.an, fun i s o a b => ?_, R.ap⟩⟩
  · obtain ⟨i, hi, z⟩ := (all p).mp z
    exact hp i hi z
  · have hi := (List.getElem?_eq_some_iff.mp a).1
    have inF : ∀ q ∈ F i, w0.H q = none := fun q z => h1 q ((all q).mpr ⟨i, hi, z⟩)
    have h := R.sl i s o a b
    cases s with
    | un => exact h
    | val d => exact h
    | own t => obtain ⟨v, e, x, y, z⟩ := h; exact ⟨v, e, x, y, fun q hq => ⟨inF q hq, (z q hq).2⟩⟩
    | io t => obtain ⟨⟨v, e, x, y, z⟩, g⟩ := h; exact ⟨⟨v, e, x, y, fun q hq => ⟨inF q hq, (z q hq).2⟩⟩, g⟩
    | bor ds => obtain ⟨e0, q, xs, e1, e2, r⟩ := h; exact ⟨e0, q, xs, e1, le0.h _ _ e2, r⟩
    | scr ds => obtain ⟨e0, q, xs, e1, e2, r⟩ := h; exact ⟨e0, q, xs, e1, le0.h.seq e2, r⟩
    | brt t => obtain ⟨e0, v, f', e1, r⟩ := h; exact ⟨e0, v, f', e1, r.mono (Same.refl _) fun q o _ z => le0.h q o z⟩
theorem RelF.unguard (R : RelF K en' w3 env3 σ F3) (ha : en'.args = en.args) (hle : en.w0.le en'.w0) (R0 : RelF K en w env2 σ F) (hw : Same w.B w3.B) (kb : ∀ (i : Nat) (s : Sl), env3[i]? = some s → brw s = true → env2[i]? = some s) : RelF K en w3 env3 σ F3 := by
  refine ⟨hle.trans R.le, R.len, by rw [← ha]; exact R.an, fun i s o a b => ?_, R.ap⟩
  have h := R.sl i s o a b
  have bk : brw s = true → SlS K en w3 i s o [] := fun hb => by
    have g := R0.sl i s o (kb i s a hb) b
    have e : F i = [] := by cases s <;> first | (cases hb; done) | exact g.1
    rw [e] at g
    exact g.keep hw fun p _ z => by cases z
  cases s with
  | un => exact h
  | val d => exact h
  | own t => obtain ⟨v, e, x, y, z⟩ := h; exact ⟨v, e, x, y, fun q hq => ⟨hle.h.free (z q hq).1, (z q hq).2⟩⟩
  | io t => obtain ⟨⟨v, e, x, y, z⟩, g⟩ := h; exact ⟨⟨v, e, x, y, fun q hq => ⟨hle.h.free (z q hq).1, (z q hq).2⟩⟩, by rw [← ha]; exact g⟩
  | bor ds => have g := bk rfl; rw [← (show F3 i = [] from h.1)] at g; exact g
  | scr ds => have g := bk rfl; rw [← (show F3 i = [] from h.1)] at g; exact g
  | brt t => have g := bk rfl; rw [← (show F3 i = [] from h.1)] at g; exact g
theorem wipeS_get {i : Nat} : ∀ vs : List Nat, (wipeS env vs)[i]? = if i ∈ vs then env[i]?.map (fun _ => Sl.un) else env[i]?
  | [] => by simp [wipeS]
  | v :: vs => by
    show ((wipeS env vs).set v .un)[i]? = _
    rw [List.getElem?_set, wipeS_get vs]
    by_cases hv : v = i
    · subst hv
      have hl : ∀ us : List Nat, (wipeS env us).length = env.length := fun us => by
        induction us with
        | nil => rfl
        | cons u us ih => show ((wipeS env us).set u .un).length = _; rw [List.length_set]; exact ih
      by_cases hi : v < env.length
      · simp [hl, hi]
      · simp [hl, hi]
    · have hv2 : ¬ i = v := fun z => hv z.symm
      simp [hv, hv2]
theorem wipeS_len : ∀ vs : List Nat, (wipeS env vs).length = env.length
  | [] => rfl
  | v :: vs => by show ((wipeS env vs).set v .un).length = _; rw [List.length_set]; exact wipeS_len vs
/-- names that hold nothing may stand at anything -/
theorem RelF.swap (R : RelF K en w env σ F) (hl : σ'.length = σ.length) (h : ∀ i : Nat, env[i]? ≠ some Sl.un → σ'[i]? = σ[i]?) : RelF K en w env σ' F :=
  ⟨R.le, by rw [R.len, hl], R.an, fun i s o a b => by
    by_cases e : s = .un
    · subst e
      have hi : i < σ.length := by rw [← R.len]; exact (List.getElem?_eq_some_iff.mp a).1
      exact R.sl i .un σ[i] a (List.getElem?_eq_getElem hi)
    · rw [h i (by rw [a]; intro z; cases z; exact e rfl)] at b
      exact R.sl i s o a b, R.ap⟩
theorem RelF.wipeF (R : RelF K en w env σ F) : ∀ vs : List Nat, RelF K en w (wipeS env vs) (L2.wipe σ vs) (fun i => if i ∈ vs then [] else F i)
  | [] => by
    have e : (fun i => if i ∈ ([] : List Nat) then [] else F i) = F := by funext i; simp
    rw [e]; exact R
  | v :: vs => by
    have h := (R.wipeF vs).upd (i := v) (s := .un) (o := none) (fp := []) (w' := w) R.le (fun _ _ _ _ _ z => z) rfl (fun _ _ _ _ z => by cases z)
    have e : (fun j => if j = v then [] else if j ∈ vs then [] else F j) = fun i => if i ∈ v :: vs then [] else F i := by
      funext j
      by_cases a : j = v <;> by_cases b : j ∈ vs <;> simp [a, b]
    rw [e] at h
    exact h
/-- an object beside the frame is written -/
theorem RelF.putX (R : RelF K en w env σ F) {p : Addr} {o : HO} (hB : w.B p = none) (hp : ∀ i, i < env.length → ¬ p ∈ F i) (h0 : en.w0.H p = none) (nk : NoKt o := by intro _ z; cases z) : RelF K en (w.put p o hB nk) env σ F := by
  have ne : ∀ q x, ¬ q = p → w.H q = some x → (w.put p o hB nk).H q = some x := fun q x z e => by
    show L2.upd w.H p o q = some x
    rw [upd_ne z]; exact e
  refine ⟨⟨R.le.b, fun q x e => ne q x (fun z => by subst z; rw [h0] at e; cases e) (R.le.h q x e), R.le.f⟩, R.len, R.an, fun i s x a b => ?_, R.ap⟩
  have hs : SlS K en w i s x (F i) := R.sl i s x a b
  exact SlS.keep (w := w) (w' := w.put p o hB nk) (show Same w.B w.B from Same.refl _) (fun q y z (e : w.H q = some y) => ⟨ne q y (fun e2 => by subst e2; exact hp i (List.getElem?_eq_some_iff.mp a).1 z) e, fun n => n⟩) hs
end
def EvIF (K : PySem.W.Frag) (wi : TI) (env : List Sl) (Pi : List D → List Sl → Prop) : Prop := ∀ (en : En) (w : Wd) (σ : TSt), Rel K en w env σ → ∀ R : It → Hp → Prop,
  (∀ J ys (w' : Wd) env', Same w.B w'.B → Rel K en w' env' σ → Pi ys env' → ItD K J (fun w2 => Same w'.B w2.B) ys → R J w'.H) → wi σ w.H R
section
variable {K : PySem.W.Frag} {env : List Sl} {wi : TI} {g : TG} {te : TE} {tA : TA} {vs : List Nat} {Pm : Sl → List Sl → Prop} {Pi : List D → List Sl → Prop}
theorem eif_rng1 (h : EvFA K tA env fun ds env' => ∃ j : Int, ds = [.int j] ∧ -1000000000 ≤ j ∧ j ≤ 1000000000 ∧ Pi (rngD 0 j.toNat) env') : EvIF K (iRng1 tA) env Pi := fun en w σ R Q q =>
  h en w σ R _ fun ds us w1 env1 s1 r1 R1 p1 => by
    obtain ⟨j, rfl, l1, l2, p⟩ := p1
    cases r1 with
    | cons r t => cases t; cases r; exact ⟨j, rfl, by omega, by omega, q _ _ w1 env1 s1 R1 p itd_range⟩
theorem eif_val (h : EvE K te env fun s => ∃ ds, s = .val (.lst ds) ∧ Pi ds env) : EvIF K (iSeq K te) env Pi := fun en w σ R Q q =>
  .inl (h en w σ R _ fun s v w1 e1 h1 r1 => by
    obtain ⟨ds, rfl, p⟩ := h1
    cases r1 with
    | @lst pp xs _ h2 r => exact ⟨pp, rfl, ⟨xs, .inl (.inl (w1.sub _ _ h2))⟩, q _ ds w1 env e1.b (R.grow e1) p (itd_list (fun w' l => .inl (.inl (w'.sub _ _ (l _ _ h2)))) fun w' l => r.mono l)⟩)
theorem em_lcF (Inv : Nat → List D → List Sl → Prop) (h : EvIF K wi env fun ys env' => ys.length ≤ 1000000 ∧ Inv 0 [] (wipeS env' vs) ∧ (∀ acc env2, Inv ys.length acc env2 → env2.length = env.length ∧ Pm (.own (oL acc)) env2) ∧
    ∀ i d acc env2, ys[i]? = some d → Inv i acc env2 → ∃ us, GD K g d us ∧ (∀ u ∈ us, u.1 ∈ vs) ∧ EvF K te (sets us (wipeS env2 vs)) fun y env3 => (∀ (i : Nat) (s : Sl), (wipeS env3 vs)[i]? = some s → brw s = true → env2[i]? = some s) ∧ Inv (i + 1) (acc ++ [y]) (wipeS env3 vs)) :
    EvM K (tLc wi g tYes te vs) env Pm := fun en w σ R Q q =>
  h en w σ R _ fun J ys w1 env1 s1 R1 p1 it => by
    obtain ⟨hly, h0, hd, hs⟩ := p1
    intro Dl hD
    obtain ⟨F1, R1⟩ := R1
    have dn : ∀ i, i < (wipeS env1 vs).length → ¬ Dl ∈ (fun i => if i ∈ vs then [] else F1 i) i := fun i hi z => by
      have hi' : i < env1.length := by rw [wipeS_len] at hi; exact hi
      obtain ⟨s, o, a, b⟩ := slot_at hi' R1.len
      dsimp only at z
      split at z
      · cases z
      · obtain ⟨⟨x, hx⟩, _⟩ := (R1.sl i s o a b).fp Dl z
        rw [hD] at hx; cases hx
    refine ⟨fun i m H' => m = ys.length - i ∧ i ≤ ys.length ∧ ∃ (w' : Wd) (env2 : List Sl) (acc : List D) (xs : List V) (F : Nat → List Addr), w'.H = H' ∧ Same w1.B w'.B ∧ w'.B Dl = none ∧ w'.H Dl = some (.lst xs) ∧ DrA K w'.B acc xs ∧ acc.length ≤ i ∧ Inv i acc env2 ∧
        (∀ (i : Nat) (s : Sl), i ∈ vs → env2[i]? = some s → s = Sl.un) ∧ RelF K en w' env2 (L2.wipe σ vs) F ∧ ∀ j, j < env2.length → ¬ Dl ∈ F j,
      ⟨ys.length, by simp, Nat.zero_le _, w1.lay Dl (.lst []) hD, wipeS env1 vs, [], [], _, rfl, (Wd.le_lay hD).b, (show w1.B Dl = none from Wd.freeB hD), upd_same, .nil, Nat.le_refl _, h0, fun i s hi e => by
        rw [wipeS_get, if_pos hi] at e
        obtain ⟨_, _, e⟩ := Option.map_eq_some_iff.mp e
        exact e.symm, ((R1.grow (Wd.le_lay hD)).wipeF vs), dn⟩, ?_⟩
    have hD0 : en.w0.H Dl = none := R1.le.h.free hD
    rintro i m H' ⟨rfl, hi, w', env2, acc, xs, F, rfl, sb, hB, hX, ra, hal, iv, hun, R2, nF⟩
    have itw := it w' sb
    by_cases hlt : i < ys.length
    · right
      obtain ⟨go, yl⟩ := itw.1 i ys[i] (List.getElem?_eq_getElem hlt)
      refine ⟨go, fun H2 => ∃ (w' : Wd) (env2 : List Sl) (acc : List D) (xs : List V) (F : Nat → List Addr), w'.H = H2 ∧ Same w1.B w'.B ∧ w'.B Dl = none ∧ w'.H Dl = some (.lst xs) ∧ DrA K w'.B acc xs ∧ acc.length ≤ i + 1 ∧ Inv (i + 1) acc env2 ∧
        (∀ (i : Nat) (s : Sl), i ∈ vs → env2[i]? = some s → s = Sl.un) ∧ RelF K en w' env2 (L2.wipe σ vs) F ∧ ∀ j, j < env2.length → ¬ Dl ∈ F j, fun H2 hh => ⟨ys.length - (i + 1), by omega, rfl, hlt, hh⟩, fun x H2 y => ?_⟩
      obtain ⟨w2, rfl, e2, rd⟩ := yl x H2 y
      obtain ⟨us, G, hu, body⟩ := hs i ys[i] acc env2 (List.getElem?_eq_getElem hlt) iv
      refine G.run rd fun gs gv => ⟨by rw [wipe_setv gv hu, wipe_wipe], ?_⟩
      have R3 := R2.grow e2
      obtain ⟨en', ha', le', hp', hB', Rg⟩ := R3.guard nF
      have Rs : Rel K en' w2 (sets us (wipeS env2 vs)) (setv gs (L2.wipe σ vs)) := by
        have := (Rel.wipe ⟨F, Rg⟩ vs).sets gv
        rw [wipe_wipe] at this
        exact this
      have tt : ∀ {Q : Bool → Hp → Prop}, Q true w2.H → tYes (setv gs (L2.wipe σ vs)) w2.H Q := fun z => z
      refine tt ?_
      rw [if_pos rfl]
      refine body en' w2 _ Rs _ fun d v w3 env3 s3 r3 R3' p3 => ?_
      obtain ⟨kb, iv3⟩ := p3
      have X3 : en'.w0.H Dl = some (.lst xs) := by rw [hp']; exact e2.h _ _ hX
      have hX3 : w3.H Dl = some (.lst xs) := R3'.le.h _ _ X3
      have hB3 : w3.B Dl = none := by
        rw [R3'.le.f _ _ X3, hB']
        exact (e2.f _ _ hX).trans hB
      obtain ⟨F3, R3'⟩ := R3'
      have Rw := R3'.wipeF vs
      rw [wipe_setv gv hu, wipe_wipe] at Rw
      have Ru := Rw.unguard ha' le' R3 s3 kb
      have n3 : ∀ j, j < (wipeS env3 vs).length → ¬ Dl ∈ (fun i => if i ∈ vs then [] else F3 i) j := fun j hj z => by
        obtain ⟨s, o, a, b⟩ := slot_at hj Rw.len
        have := ((Rw.sl j s o a b).fp Dl z).2.1
        rw [X3] at this; cases this
      refine ⟨xs, hX3, Nat.lt_of_lt_of_le (by rw [← ra.len]; omega) (show 1000000 ≤ sizeLine by decide), w3.put Dl (.lst (xs ++ [v])) hB3, wipeS env3 vs, acc ++ [d], xs ++ [v], _, rfl, sb.trans (e2.b.trans s3), hB3, upd_same, (ra.mono (e2.b.trans s3)).snoc r3, (by simp; omega), iv3, fun i s hi e => ?_, Ru.putX hB3 n3 hD0, n3⟩
      rw [wipeS_get, if_pos hi] at e
      obtain ⟨_, _, e⟩ := Option.map_eq_some_iff.mp e
      exact e.symm
    · left
      have e : i = ys.length := by omega
      subst e
      obtain ⟨hl2, pm⟩ := hd acc env2 iv
      have hwl : (L2.wipe σ vs).length = σ.length := by
        rw [← R2.len, hl2, R.len]
      have R4 : RelF K en w' env2 σ F := R2.swap hwl.symm fun j hj => by
        rw [wipe_get]
        by_cases hv : j ∈ vs
        · by_cases hjl : j < env2.length
          · exact (hj (by rw [List.getElem?_eq_getElem hjl]; rw [hun j _ hv (List.getElem?_eq_getElem hjl)])).elim
          · rw [if_pos hv, List.getElem?_eq_none (by rw [R2.len, hwl] at hjl; omega)]; rfl
        · rw [if_neg hv]
      refine ⟨itw.2 _ (Nat.le_refl _), q (.own (oL acc)) (.ref Dl) w' env2 (.own _) (s1.trans sb) ⟨fun k => if k = env2.length then [Dl] else F k, R4.le, by simp [R4.len], by have := R4.an; simp; omega, fun k s o a b => ?_, fun j k p hj hk a b => ?_⟩ pm⟩
      · by_cases hk : k = env2.length
        · subst hk
          rw [List.getElem?_append_right (Nat.le_refl _)] at a
          rw [List.getElem?_append_right (by rw [R4.len]; exact Nat.le_refl _), R4.len] at b
          simp at a b; subst a b
          rw [if_pos rfl]
          exact ⟨_, rfl, TR.ofL hX ra, by simp, fun q z => by
            have e : q = Dl := by simpa using z
            subst e
            exact ⟨hD0, hB⟩⟩
        · have hkl : k < env2.length := by
            have := (List.getElem?_eq_some_iff.mp a).1
            simp at this; omega
          rw [List.getElem?_append_left hkl] at a
          rw [List.getElem?_append_left (by rw [← R4.len]; exact hkl)] at b
          rw [if_neg hk]
          exact R4.sl k s o a b
      · have hj' : j ≤ env2.length := by simp at hj; omega
        have hk' : k ≤ env2.length := by simp at hk; omega
        by_cases j1 : j = env2.length
        · by_cases k1 : k = env2.length
          · omega
          · rw [if_pos j1] at a; rw [if_neg k1] at b
            have e : p = Dl := by simpa using a
            subst e
            exact (nF k (by omega) b).elim
        · rw [if_neg j1] at a
          by_cases k1 : k = env2.length
          · rw [if_pos k1] at b
            have e : p = Dl := by simpa using b
            subst e
            exact (nF j (by omega) a).elim
          · rw [if_neg k1] at b
            exact R4.ap j k p (by omega) (by omega) a b
end
end DL

set_option Elab.async false
set_option linter.all false
set_option maxRecDepth 100000
set_option autoImplicit false
namespace DL
open PySem L2 PySem.Spec PyProof.Rows SX
/-! ### texts, as the lists of their signs -/
section
variable {K : PySem.W.Frag} {P : Sl → Prop} {a b z : List Nat} {c : Nat}
theorem small6 {n : Nat} (h : n ≤ 1000000) : n ≤ sizeLine := Nat.le_trans h (by decide)
theorem d_cat (hl : a.length + b.length ≤ 1000000) (p : P (.val (.str (S (a ++ b))))) : RvP K (rAddG K) (.val (.str (S a))) (.val (.str (S b))) P := fun w wx x y e r1 r2 Q q => by
  cases r1; cases r2
  refine .inr (.inl ⟨_, _, rfl, rfl, small6 (by rw [S_len, S_len]; exact hl), ?_⟩)
  rw [S_cat]
  exact q _ _ wx wx.rfl' p (.str _)
theorem d_ixS {k : Int} (h0 : 0 ≤ k) (hl : a.length ≤ 1000000) (h : ∃ c, a[k.toNat]? = some c ∧ P (.val (.str (S [c])))) : RvP K (rIx K) (.val (.str (S a))) (.val (.int k)) P := fun w wx x y e r1 r2 Q q => by
  cases r1; cases r2
  obtain ⟨c, hc, p⟩ := h
  exact .inr (.inr ⟨_, _, c, rfl, rfl, small6 (by rw [S_len]; exact hl), atI_of h0 hc, q _ _ wx wx.rfl' p (.str _)⟩)
theorem cutS_S {i j : Int} (h0 : 0 ≤ i) (h1 : 0 ≤ j) : cutS (S a) (some i) (some j) = S ((a.drop i.toNat).take (j.toNat - i.toNat)) := by
  unfold cutS
  have e : ∀ (d : Nat) (k : Int), 0 ≤ k → HT.sIx (S a).length d (some k) = min k.toNat a.length := fun d k hk => by
    rw [S_len]
    show (if k < 0 then _ else min k.toNat a.length) = _
    rw [if_neg (by omega)]
  rw [e _ i h0, e _ j h1]
  show S _ = S _
  congr 1
  show ((a.drop (min i.toNat a.length)).take (min j.toNat a.length - min i.toNat a.length)) = _
  apply List.ext_getElem?
  intro k
  rw [List.getElem?_take, List.getElem?_take, List.getElem?_drop, List.getElem?_drop]
  by_cases hi : i.toNat ≤ a.length
  · rw [Nat.min_eq_left hi]
    by_cases hk : i.toNat + k < a.length
    · by_cases h2 : k < j.toNat - i.toNat
      · rw [if_pos h2, if_pos (by omega)]
      · rw [if_neg h2, if_neg (by omega)]
    · rw [List.getElem?_eq_none (by omega)]; simp
  · rw [List.getElem?_eq_none (l := a) (i := i.toNat + k) (by omega), List.getElem?_eq_none (l := a) (i := min i.toNat a.length + k) (by omega)]; simp
theorem d_slST {i j : Int} (h0 : 0 ≤ i) (h1 : 0 ≤ j) (hl : a.length ≤ 1000000) (p : P (.val (.str (S ((a.drop i.toNat).take (j.toNat - i.toNat)))))) : RsP K (rSlG K) (.val (.str (S a))) (some i) (some j) P := fun w wx x e r1 Q q => by
  cases r1
  refine .inr (.inl ⟨_, rfl, small6 (by rw [S_len]; exact hl), ?_⟩)
  rw [cutS_S h0 h1]
  exact q _ _ wx wx.rfl' p (.str _)
theorem d_inC (p : P (.val (.bl (decide (c ∈ z))))) : RvP K (rInG K) (.val (.str (S [c]))) (.val (.str (S z))) P := fun w wx x y e r1 r2 Q q => by
  cases r1; cases r2
  refine .inr (.inr (.inl ⟨_, _, rfl, rfl, ?_⟩))
  rw [show (!(PySem.Builtin.Str.occurrences (S z) (S [c]) 0 (S z).length 1).isEmpty) = decide (c ∈ z) from PySem.StrLaws.found_one (S z) c]
  exact q _ _ wx wx.rfl' p (.bl _)
theorem ra_lenST (hl : a.length ≤ 1000000) (p : P (.val (.int a.length))) : RaP K (rLenG K) [.val (.str (S a))] P := fun w wx vs e r Q q => by
  cases r with
  | cons r t =>
    cases t
    cases r
    exact ⟨_, a.length, rfl, ⟨small6 (by rw [S_len]; exact hl), by rw [S_len]⟩, q _ _ wx wx.rfl' p (.int _)⟩
def rIntS : List V → Hp → VK → Prop := fun xs H Q => ∃ a n, xs = [.str a] ∧ PySem.intText? a = some n ∧ a.length ≤ 640 ∧ Q (.int n) H
theorem b_intS {X : Cx} : CallR X (.type "int") rIntS := call_int_str
theorem ra_intS {n : Nat} (hn : n < 10 ^ 20) (p : P (.val (.int n))) : RaP K rIntS [.val (.str (S (TL.numL n)))] P := fun w wx vs e r Q q => by
  have hl : (TL.numL n).length ≤ 20 := TL.numL_len (by decide) hn
  cases r with
  | cons r t =>
    cases t
    cases r
    refine ⟨_, n, rfl, ?_, by rw [S_len]; omega, q _ _ wx wx.rfl' p (.int _)⟩
    rw [← num_S]
    exact TL.int_num (by omega)
theorem ra_strN {n : Nat} (hn : n < 10 ^ 20) (p : P (.val (.str (S (TL.numL n))))) : RaP K rStrI [.val (.int n)] P := ra_strI (by
  have : ((n : Int).natAbs).log2 ≤ 70 := by
    rw [Int.natAbs_natCast]
    exact Nat.le_of_lt_succ ((Nat.log2_lt (n := n) (k := 71) · |>.mpr (Nat.lt_of_lt_of_le hn (by decide))) |> fun f => by
      by_cases h : n = 0
      · subst h; decide
      · exact f h)
  omega) (by rw [show ((toString (n : Int) : String) : Str) = S (TL.numL n) from num_S n]; exact p)
theorem d_eqT {a b : List Nat} (p : P (.val (.bl (decide (a = b))))) : RvP K (rEqG K) (.val (.str (S a))) (.val (.str (S b))) P := d_eqS (by
  rw [show decide (S a = S b) = decide (a = b) from decide_eq_decide.mpr ⟨fun e => S_inj e, fun e => by rw [e]⟩]; exact p)
end
/-! ### c * n, one sign -/
def rRepC : R2 := fun x y H Q => ∃ (c : Nat) (k : Int), x = .str (S [c]) ∧ y = .int k ∧ 0 ≤ k ∧ k ≤ 100000 ∧ Q (.str (S (List.replicate k.toNat c))) H
theorem mul_one {c : Nat} {k : Int} (h0 : 0 ≤ k) : Txt.mul (S [c]) k = S (List.replicate k.toNat c) := by
  unfold Txt.mul
  by_cases h1 : k < 1
  · have : k = 0 := by omega
    subst this; rfl
  · rw [if_neg h1]
    by_cases h2 : k = 1
    · subst h2; rfl
    · have hb : (k == 1 || (S [c]).length == 0) = false := by
        have : (k == 1) = false := by simpa using h2
        rw [this, S_len]; rfl
      rw [if_neg (by rw [hb]; decide)]
      have : ∀ (m : Nat) (z : List Nat), (List.replicate m #[c]).foldl (· ++ ·) z.toArray = (z ++ List.replicate m c).toArray := by
        intro m
        induction m with
        | zero => intro z; simp
        | succ m ih =>
          intro z
          rw [List.replicate_succ, List.foldl_cons, show z.toArray ++ #[c] = (z ++ [c]).toArray by simp, ih, List.replicate_succ]
          simp
      have e := this k.toNat []
      show (⟨_⟩ : Str) = ⟨_⟩
      rw [show ((S [c]).cps) = #[c] from rfl]
      rw [show (#[] : Array Nat) = ([] : List Nat).toArray from rfl, e, List.nil_append]
theorem op_repC {X : Cx} : OpR X (binaryOp .Mult) rRepC := by
  intro pins s σ H x y v u Q I rx ry h
  obtain ⟨c, k, rfl, rfl, h0, h1, q⟩ := h
  obtain ⟨t, rfl⟩ := rx
  obtain ⟨t', rfl⟩ := ry
  refine SB.mul ⟨?_, fun a b => ?_, fun a b => ?_⟩ fun t2 k2 => ?_
  · have h2 : ¬ k < -(2 ^ 63) := by omega
    have h3 : ¬ k ≥ 2 ^ 63 := by omega
    rw [decide_eq_false h2, decide_eq_false h3]; rfl
  · rw [S_len]
    have : (1 : Int) ≤ (2 ^ 63 - 1) / k := (Int.le_ediv_iff_mul_le (by omega)).mpr (by omega)
    show ¬ ((1 : Int) > _)
    omega
  · rw [S_len]
    show decide ([c].length * k.toNat > sizeLine) = false
    have := small6 (n := k.toNat) (by omega)
    exact decide_eq_false (by simp only [List.length_cons, List.length_nil]; omega)
  · rw [mul_one h0]
    exact ⟨.str (S (List.replicate k.toNat c)), H, I.tok _, ⟨_, rfl⟩, q⟩
def rMulC : R2 := rOr rMulG rRepC
theorem g_mulC {X : Cx} : OpR X (binaryOp .Mult) rMulC := g_mul.or op_repC
theorem d_rep {K : PySem.W.Frag} {P : Sl → Prop} {c : Nat} {k : Int} (h0 : 0 ≤ k) (h1 : k ≤ 100000) (p : P (.val (.str (S (List.replicate k.toNat c))))) : RvP K rMulC (.val (.str (S [c]))) (.val (.int k)) P := fun w wx x y e r1 r2 Q q => by
  cases r1; cases r2
  exact .inr ⟨c, k, rfl, rfl, h0, h1, q _ _ wx wx.rfl' p (.str _)⟩
end DL

set_option Elab.async false
set_option linter.all false
set_option maxRecDepth 100000
set_option autoImplicit false
namespace DL
open PySem L2 PySem.Spec PyProof.Rows SX
/-! ### a tuple of texts that stands at the top -/
structure TupK (K : PySem.W.Frag) (a : Addr) (ss : List Str) : Prop where
  ex : ∃ (o : Obj) (its : Array Value) (n : Nat), K.lookup a = some o ∧ o.cls = .type "tuple" ∧ o.data = .seq its n ∧ its.size ≤ sizeLine ∧ Vals (ss.map V.str) its.toList
theorem dra_strs {K : PySem.W.Frag} {B : Hp} : ∀ ss : List Str, DrA K B (ss.map .str) (ss.map V.str)
  | [] => .nil
  | s :: r => .cons (.str s) (dra_strs r)
section
variable {K : PySem.W.Frag} {env : List Sl} {P : Sl → Prop} {te : TE}
theorem ev_gtup {a : Addr} {ss : List Str} (T : TupK K a ss) (p : P (.val (.tup (ss.map .str)))) : EvE K (tC (.ref a)) env P := fun en w σ R Q q => by
  obtain ⟨o, its, n, h1, h2, h3, h4, h5⟩ := T.ex
  exact q (.val (.tup (ss.map .str))) (.ref a) w w.rfl' p (Dr.tup (.inr ⟨o, its, n, h1, h2, h3, h4, h5⟩) (dra_strs ss))
theorem ev_lit {s : Str} {l : List Nat} (e : s = S l) (p : P (.val (.str (S l)))) : EvE K (tC (.str s)) env P := by
  subst e; exact ev_str p
theorem pl_strs {n : Nat} {ss : List Str} (h : ∀ s ∈ ss, PyData.strOk s = true) : Pl (n + 1) (.tup (ss.map .str)) := .tup n _ fun d hd => by
  obtain ⟨s, hs, rfl⟩ := List.mem_map.mp hd
  exact .str _ _ (h s hs)
theorem d_inTS {x : Str} {ss : List Str} (hx : PyData.strOk x = true) (h : ∀ s ∈ ss, PyData.strOk s = true) (p : P (.val (.bl (decide (x ∈ ss))))) : RvP K (rInG K) (.val (.str x)) (.val (.tup (ss.map .str))) P :=
  d_inT 0 1 rfl rfl (.str _ _ hx) (pl_strs h) (by decide) (by decide) (by
    have e : ((ss.map D.str).any fun z => eqD z (.str x)) = decide (x ∈ ss) := by
      rw [Bool.eq_iff_iff, List.any_eq_true]
      constructor
      · rintro ⟨z, hz, e⟩
        obtain ⟨s, hs, rfl⟩ := List.mem_map.mp hz
        have := (eqD_iff (.str 0 _ (h s hs)) (.str 0 _ hx)).mp e
        cases this
        exact decide_eq_true hs
      · intro z
        have z := of_decide_eq_true z
        exact ⟨_, List.mem_map.mpr ⟨x, z, rfl⟩, (eqD_iff (.str 0 _ hx) (.str 0 _ hx)).mpr rfl⟩
    rw [e]; exact p)
end
/-! ### a def that is never called -/
def tsNo : TS := fun _ _ _ => False
theorem pss_no {X : Cx} {b : List Stmt} : PSs X b tsNo := ⟨fun _ _ _ _ _ _ h => h.elim⟩
section
variable {Pr : Program} {wd : World} {K : PySem.W.Frag} {mg : Str → Option Value} {base : Heap}
theorem fnok_no {x qual : Str} {st : Stmt} {f : Addr} {fd : FuncData} {N ps : List Str} {k : Nat} {Sp : SpD} (F : Fun K x qual st f fd) (Sc : FnScope N ps (defScope st)) (h : ∀ as R, ¬ Sp as R) : FnOk Pr wd K mg base CX0 (k + 1) f fd ps (spD K Sp) :=
  okD F Sc (fun as R z => (h as R z).elim) fun cdv A outer s H E hr => ⟨_, pss_no, fun as R z => (h as R z).elim⟩
end
end DL

set_option Elab.async false
set_option linter.all false
set_option maxRecDepth 100000
set_option autoImplicit false
namespace DL
open PySem L2
section
variable {K : PySem.W.Frag} {env : List Sl} {te ta tb : TE} {Pf : D → List Sl → Prop}
theorem ef_cb1 {r : List V → Hp → VK → Prop} (h : EvF K te env fun d env' => RaP K r [.val d] fun s => ∃ d, s = .val d ∧ Pf d env') : EvF K (tCB r (tCons te tNil)) env Pf :=
  ef_cb (efa_cons fun en w σ R Q q => h en w σ R Q fun d v w' env' s r1 R1 p => q d v w' env' s r1 R1 (efa_nil p))
theorem ef_io {i : Nat} {t : OT} {S : SpM} {E : XK} {tA : TA} (e : env[i]? = some (.own t) ∨ env[i]? = some (.io t))
    (h : EvA K tA env fun ss => ∃ ds : List D, ss = ds.map .val ∧ S (.io t :: ds.map .val) fun s as' => ∃ t' d, as'[0]? = some (.io t') ∧ s = .val d ∧ Pf d (putS env i t')) : EvF K (tCall (spM K S) [] E (tCons (tVar i) tA)) env Pf :=
  ef_em (em_call e fun en w σ R Q q => h en w σ R Q fun ss vs w1 e1 p1 r1 => q ss vs w1 e1 (by
    obtain ⟨ds, e, p⟩ := p1
    refine ⟨ds, e, ?_⟩
    have eq : (fun s as' => ∃ t', as'[0]? = some (.io t') ∧ (putS env i t').length = env.length ∧ ∃ d, s = .val d ∧ Pf d (putS env i t')) = fun (s : Sl) (as' : List Sl) => ∃ t' d, as'[0]? = some (.io t') ∧ s = .val d ∧ Pf d (putS env i t') := by
      funext s as'
      apply propext
      constructor
      · rintro ⟨t', a, _, d, b, c⟩; exact ⟨t', d, a, b, c⟩
      · rintro ⟨t', d, a, b, c⟩; exact ⟨t', a, putS_len, d, b, c⟩
    rw [eq]; exact p) r1)
end
end DL

set_option Elab.async false
set_option linter.all false
set_option maxRecDepth 100000
set_option autoImplicit false
namespace DL
open PySem L2 PySem.Spec PyProof.Rows SX
/-! ### products of long whole numbers -/
def rMulX : R2 := rI (fun i j => i.natAbs.log2 ≤ 2000000 ∧ j.natAbs.log2 ≤ 2000000) fun i j => .int (i * j)
theorem mulX_ok {i j : Int} (h : i.natAbs.log2 ≤ 2000000 ∧ j.natAbs.log2 ≤ 2000000) : IntMulOk i j := by
  have b : ∀ x : Int, Builtin.Int.intBits x ≤ x.natAbs.log2 + 1 := fun x => by
    unfold Builtin.Int.intBits
    split <;> omega
  unfold IntMulOk
  have h1 := b i
  have h2 := b j
  have : Builtin.Int.intTooBig (Builtin.Int.intBits i + Builtin.Int.intBits j) = false := by
    unfold Builtin.Int.intTooBig
    refine decide_eq_false ?_
    have : (bitsLine : Int) = 134217728 := by decide
    omega
  rw [this]; simp
theorem op_mulX {X : Cx} : OpR X (binaryOp .Mult) rMulX := opI fun _ _ _ _ _ _ _ hc q => mul_int q (mulX_ok hc)
def rMulL : R2 := rOr rMulG rMulX
theorem g_mulL {X : Cx} : OpR X (binaryOp .Mult) rMulL := g_mul.or op_mulX
theorem d_mulX {K : PySem.W.Frag} {P : Sl → Prop} {i j : Int} (h1 : i.natAbs.log2 ≤ 2000000) (h2 : j.natAbs.log2 ≤ 2000000) (p : P (.val (.int (i * j)))) : RvP K rMulL (.val (.int i)) (.val (.int j)) P := fun w wx x y e r1 r2 Q q => by
  cases r1; cases r2
  exact .inr ⟨i, j, rfl, rfl, ⟨h1, h2⟩, q _ _ wx wx.rfl' p (.int _)⟩
/-! ### a law whose script has few bits -/
def spLawB : SpD := fun as R => ∃ ns : List Int, as = [.scr (ns.map .int)] ∧ ns.length ≤ 63 ∧ (∀ z ∈ ns, z.natAbs.log2 ≤ 1048576) ∧ R (.val (.bl true))
theorem law_endB {K : PySem.W.Frag} {H : Hp} {a : Addr} {ns : List Int} (hl : ns.length ≤ 63) (hb : ∀ z ∈ ns, Builtin.Int.intBits z ≤ 1048576) (h : SqL K H a (ns.map V.int)) : spD K spLawB [.ref a] H (fun v _ => v = .bl true) fun _ _ _ => False := by
  refine ⟨⟨⟨H, H, Same.refl _, fun _ _ e => e⟩, [.ref a]⟩, ⟨H, H, Same.refl _, fun _ _ e => e⟩, [.scr (ns.map .int)], fun s _ => s = .val (.bl true), rfl, rfl, ⟨fun _ => [], Wd.rfl' _, rfl, Nat.le_refl _, fun i s o e1 e2 => ?_, fun i j p _ _ z => by simp at z⟩, ⟨ns, rfl, hl, fun z hz => ?_, fun _ => rfl⟩, fun s v w' as' st _ R e => ?_⟩
  · cases i with
    | zero => simp at e1 e2; subst e1 e2; exact ⟨rfl, a, _, rfl, h, DrA.ints⟩
    | succ i => simp at e1
  · have q := hb z hz
    have : z.natAbs.log2 ≤ Builtin.Int.intBits z := by
      unfold Builtin.Int.intBits
      split
      · rename_i h0; simp at h0; subst h0; decide
      · omega
    omega
  · subst e
    have := Rel.last st R
    cases this
    rfl
/-! ### texts and whole numbers -/
def itx (i : Int) : List Nat := if i < 0 then 45 :: TL.numL i.natAbs else TL.numL i.natAbs
theorem str_int (i : Int) : (Str.ofString (toString i)) = S (itx i) := by
  unfold itx
  cases i with
  | ofNat n =>
    have hn : ¬ (Int.ofNat n < 0) := Int.not_lt.mpr (Int.natCast_nonneg n)
    rw [if_neg hn]
    exact num_S n
  | negSucc n =>
    rw [if_pos (by omega)]
    have e : toString (Int.negSucc n) = "-" ++ toString (((n + 1 : Nat)) : Int) := rfl
    rw [e, PySem.Str.ofString_eq_toList]
    have q := num_S (n + 1)
    rw [PySem.Str.ofString_eq_toList] at q
    have q2 : (toString (((n + 1 : Nat)) : Int)).toList.map Char.toNat = TL.numL (n + 1) := S_inj q
    rw [String.toList_append, List.map_append, q2]
    rfl
theorem itx_len {i : Int} {k : Nat} (hk : 0 < k) (h : i.natAbs < 10 ^ k) : (itx i).length ≤ k + 1 := by
  have := TL.numL_len hk h
  unfold itx
  split
  · simp; omega
  · omega
section
variable {K : PySem.W.Frag} {P : Sl → Prop} {env : List Sl}
theorem log_60 {n : Nat} (h : n < 10 ^ 62) : n.log2 < 1920 := by
  by_cases h0 : n = 0
  · subst h0; decide
  · have : n.log2 < 206 := (Nat.log2_lt h0).mpr (Nat.lt_of_lt_of_le h (by decide))
    omega
theorem ra_strZ {i : Int} (hn : i.natAbs < 10 ^ 62) (p : P (.val (.str (S (itx i))))) : RaP K rStrI [.val (.int i)] P := ra_strI (log_60 hn) (by rw [show ((toString (i : Int) : String) : Str) = S (itx i) from str_int i]; exact p)
theorem ra_intZ {n : Nat} (hn : n < 10 ^ 62) (p : P (.val (.int n))) : RaP K rIntS [.val (.str (S (TL.numL n)))] P := fun w wx vs e r Q q => by
  have hl : (TL.numL n).length ≤ 62 := TL.numL_len (by decide) hn
  cases r with
  | cons r t =>
    cases t
    cases r
    refine ⟨_, n, rfl, ?_, by rw [S_len]; omega, q _ _ wx wx.rfl' p (.int _)⟩
    rw [← num_S]
    exact TL.int_num (by omega)
/-- max of a list of whole numbers -/
theorem ra_maxL {s : Sl} {ns : List Int} (l : LsS s (ns.map .int)) (hn : 0 < ns.length) (p : ∀ m, m ∈ ns → (∀ y ∈ ns, y ≤ m) → P (.val (.int m))) : RaP K (rMax K) [s] P := fun w wx vs e r Q q => by
  cases r with
  | cons r t =>
    cases t
    obtain ⟨a, xs, rfl, h2, h3⟩ := l.ok r
    have hx := h3.ints_inv
    subst hx
    exact ⟨a, ns, rfl, h2, hn, fun m h1 h4 => q _ _ wx wx.rfl' (p m h1 h4) (.int _)⟩
/-- sep.join(xs), xs a list of texts -/
def rJoin (K : PySem.W.Frag) : V → List V → Hp → VK → Prop := fun x xs H Q => ∃ a p, ∃ ys : List Str, x = .str a ∧ xs = [.ref p] ∧ (SqL K H p (ys.map V.str) ∨ SqT K H p (ys.map V.str)) ∧
    (ys.map (·.length)).sum + ys.length * a.length ≤ 16777216 ∧ Q (.str (Txt.join a ys)) H
theorem dra_strs_inv {B : Hp} : ∀ {ys : List (List Nat)} {xs : List V}, DrA K B (ys.map fun w => .str (S w)) xs → xs = (ys.map S).map V.str
  | [], _, h => by cases h; rfl
  | y :: r, _, h => by
    cases h with
    | cons a b => cases a; rw [dra_strs_inv b]; rfl
theorem ev_join {te : TE} {tA : TA} {a : List Nat} (h : EvE K te env fun s => s = .val (.str (S a)) ∧ EvA K tA env fun ss => ∃ s ys, ss = [s] ∧ LsS s (ys.map fun w => .str (S w)) ∧ (ys.map List.length).sum + ys.length * a.length ≤ 16777216 ∧ P (.val (.str (S (TL.joinL a ys))))) :
    EvE K (tBM K "str" (rJoin K) te tA) env P := fun en w σ R Q q =>
  h en w σ R _ fun s v w1 e1 h1 r1 => by
    obtain ⟨rfl, h2⟩ := h1
    cases r1
    refine ⟨rfl, h2 en w1 σ (R.grow e1) _ fun ss vs w2 e2 h3 r2 => ?_⟩
    obtain ⟨s, ys, rfl, l, hz, p⟩ := h3
    cases r2 with
    | cons r t =>
      cases t
      obtain ⟨b, xs, rfl, g2, g3⟩ := l.ok r
      have hx := dra_strs_inv g3
      subst hx
      refine ⟨S a, b, ys.map S, rfl, rfl, .inl g2, ?_, ?_⟩
      · have e : (ys.map S).map (·.length) = ys.map List.length := by
          rw [List.map_map]
          exact List.map_congr_left fun y _ => S_len y
        rw [e, List.length_map, S_len]; exact hz
      · rw [join_S]
        exact q _ _ w2 (e1.trans e2) p (.str _)
end
theorem mt_joinK {X : Cx} {K : PySem.W.Frag} (hK : X.K = K := by rfl) : MtR X "str.join" (rJoin K) := hK ▸ mt_join
end DL

set_option Elab.async false
set_option linter.all false
set_option maxRecDepth 100000
set_option autoImplicit false
namespace DL
open PySem L2 PySem.Spec PyProof.Rows NdefX
/-! ### raise C(): nothing given -/
theorem pmk_oex0 {X : Cx} {CX : CXT} {x : Str} {C fI : Addr} {k : Nat} {fd : FuncData} {ps : List Str} {sp : Sp} {ds : List Value} {dvs : List V} {p pos : Pos} (T : OexC X.K C) (iC : PySem.W.findIn X.K (.ref C) "__init__" = some (some (.ref fI))) (tI : PySem.W.typeIn X.K (.ref fI) = some (.type "function"))
    (F1 : FnOk X.prog X.w X.K X.mg X.base CX k fI fd ps sp) (hr : Room (k + 1) X.A) (hb : Binds X.K fd ps ds) (hd : Vals dvs ds) (hx : Passes CX X (fun _ _ _ => False)) (hg : Gl X x) (hm : X.mg x = some (.ref C))
    (hdb : (x == ("__debug__" : Str)) = false := by decide) :
    PMk X (.Call (.Name x p) [] [] pos) (tMkO C sp dvs tNil) := by
  intro pins s σ H Q I h
  obtain ⟨nm, q, N, bs, bm, sn, sub, ab, col, dd, k0, k1, k2, k3, k5, hC, hbm⟩ := T.cls
  refine wpAny_Call_Name_kw (ld_glob I hg hm ?_ hdb)
  refine PySem.W.callWith_K0 I.kIn T.kC ?_
  show wpAny _ _ (call (.ref C) []) _ _ _
  obtain ⟨hz, q1⟩ := (show ([] : List V).length ≤ 1000 ∧ _ from h)
  obtain ⟨hp, g, dr, tk, os⟩ := s
  have hsz : hp.objs.size ≤ hp.objs.size + 1 := Nat.le_succ _
  have hn : H (hp.objs.size + 1) = none := I.hok.fresh hsz
  have hq := q1 (hp.objs.size + 1) hn
  have kk : ∀ b o, hp.get? b = some o → ((hp.push (PySem.W.kdv_tup [])).push (PySem.HandSPX.excO C hp.objs.size)).get? b = some o := fun b o e => Heap.get?_push_of_some _ (Heap.get?_push_of_some _ e)
  have hget : ((hp.push (PySem.W.kdv_tup [])).push (PySem.HandSPX.excO C hp.objs.size)).get? (hp.objs.size + 1) = some (PySem.HandSPX.excO C hp.objs.size) := by heap_get
  have I2 : Inv X pins σ (upd H (hp.objs.size + 1) (exo (hp.objs.size + 1) C none)) ⟨(hp.push (PySem.W.kdv_tup [])).push (PySem.HandSPX.excO C hp.objs.size), g, dr, tk, os⟩ :=
    I.laid (t' := tk) (a := hp.objs.size + 1) (o := exo (hp.objs.size + 1) C none) (h' := (hp.push (PySem.W.kdv_tup [])).push (PySem.HandSPX.excO C hp.objs.size)) kk hsz (exo_ok hget)
  have r2 : Vals (V.ref (hp.objs.size + 1) :: ([] ++ dvs)) ([Value.ref (hp.objs.size + 1)] ++ ds) := .cons rfl hd
  have hl : (Value.ref (hp.objs.size + 1) :: [] ++ ds).length = ps.length := by
    have e := r2.length
    rw [F1.len _ _ _ _ hq] at e
    exact e.symm
  have hus : ([] : List Value).length ≤ sizeLine := Nat.zero_le _
  refine wpAny_call (PySem.HandSPX.call_own F.excBase_ValueError (fun Y => PySem.HandSPX.refsVE_contains Y bm hbm) (I.kIn _ _ hC) (PySem.W.looks_findIn I.kIn iC) (fun self => PySem.W.bind_fn I.kIn self tI) hus
    (codeAny_mono (F1.run _ X.stack _ _ ⟨Value.ref (hp.objs.size + 1) :: [], []⟩ ([Value.ref (hp.objs.size + 1)] ++ ds) _ _ (fun _ _ _ => False) (hr.make C [] []) (I2.env0.make C [] []) (hb _ (Value.ref (hp.objs.size + 1) :: []) I2.kIn hl) r2 hq) fun r s' hq' => ?_))
  cases r with
  | error er => exact hx pins σ _ _ er s' I2 hq'
  | ok fl =>
    cases fl with
    | ret u =>
      obtain ⟨v, H2, os2, bare2, un2, hok2, rv, ev, d, fs, ea, ed, hd1, q2⟩ := hq'
      subst ev
      obtain ⟨h2, g2, d2, t2, os'⟩ := s'
      exact ⟨rv, mk_end (raises_own T.exC T.tyC) I hsz kk un2 hok2 os2 bare2 ea ed hd1 q2⟩
    | next => exact False.elim hq'
    | brk => exact False.elim hq'
    | cont => exact False.elim hq'
/-- the exception class that the name x stands for, called with nothing -/
structure CalKZ (Pr : Program) (wd : World) (K : PySem.W.Frag) (mg : Str → Option Value) (base : Heap) (x : Str) (C D : Addr) (k : Nat) : Prop where
  sup : SupC K C D
  ex : ∃ fI fd, PySem.W.findIn K (.ref C) "__init__" = some (some (.ref fI)) ∧ PySem.W.typeIn K (.ref fI) = some (.type "function") ∧ FnOk Pr wd K mg base CX0 k fI fd ["self", "what"] (spKE K D) ∧ Binds K fd ["self", "what"] [.none] ∧ mg x = some (.ref C)
def sRaiseZ (C : Addr) (sp : Sp) (W : WX) : TS := fun _ σ H => tMkO C sp [.non] tNil σ H fun cls d H' => W cls d σ H'
theorem ps_raiseZ {X : Cx} {W : WX} {x : Str} {C D : Addr} {k : Nat} {p pos rpos : Pos} (G : CalKZ X.prog X.w X.K X.mg X.base x C D k) (tk : Takes X W) (hr : Room (k + 1) X.A) (hg : Gl X x) (hc : X.calm = true := by rfl)
    (hdb : (x == ("__debug__" : Str)) = false := by decide) :
    PS X (.Raise (some (.Call (.Name x p) [] [] pos)) none rpos) (sRaiseZ C (spKE X.K D) W) := by
  obtain ⟨fI, fd, iC, tI, F, hb, hm⟩ := G.ex
  exact ps_raise hc tk (pmk_oex0 G.sup.oex iC tI F hr hb (.cons rfl .nil) pass0 hg hm hdb)
section
variable {K : PySem.W.Frag} {W : WX} {Z Z' : XP} {env : List Sl} {P : Post} {w w' : Wd}
theorem wpx_raiseZ {C D : Addr} (SC : SupC K C D) (z : Z C .non env) : WpX K W (sRaiseZ C (spKE K D) W) env P Z := fun en w σ R O _ hn hb hc hr => by
  refine ⟨by simp, fun a ha => ⟨a, C, .non, rfl, SC, upd_same, fun dx hdx hne => ⟨rfl, dx, [("what", .non)], upd_same, ?_, ?_, ?_⟩⟩⟩
  · rw [upd_ne hne, upd_same]
  · rw [upd_ne hne] at hdx; exact hdx
  · rw [upd_ne hne] at hdx
    have eH : upd (del (upd (upd (upd w.H a (exo a C none)) dx (exd dx [("what", .non)])) a (exo a C (some dx))) a) dx (.xd [("what", .non)]) = (w.new dx (.xd [("what", .non)]) hdx).H := by
      show _ = upd w.H dx (.xd [("what", .non)])
      funext b
      by_cases hb1 : b = dx
      · rw [hb1, upd_same, upd_same]
      · rw [upd_ne hb1, upd_ne hb1]
        by_cases hb2 : b = a
        · rw [hb2, del_same, ha]
        · rw [del_ne hb2, upd_ne hb2, upd_ne hb1, upd_ne hb2]
    rw [eH]
    have e2 : w.le (w.new dx (.xd [("what", .non)]) hdx) := Wd.le_new hdx
    exact O C dx .non .non _ σ env e2.b R.len.symm R.an (R.push e2 .non (.val .non)) upd_same z
end
/-! ### methods and defs that may raise -/
def tMethS (C : Addr) (m : Str) (sp : Sp) (E : TSt → XK) (ta : TE) (t : TA) : TE := fun σ H Q => tMeth C m sp [] (E σ) ta t σ H Q
section
variable {X : Cx} {CX : CXT} {k : Nat} {f C : Addr} {fd : FuncData} {ps : List Str} {sp : Sp} {E : TSt → XK} {x m : Str} {p pos apos : Pos} {e o : Expr} {es : List Expr} {ta : TE} {t : TA} {pl : Sem Bool}
theorem pe_methS (he : PE X o ta) (c : Cls X.K C) (hm : Meth X.K C m f) (F : FnOk X.prog X.w X.K X.mg X.base CX k f fd ps sp) (hr : Room k X.A) (hb : Binds X.K fd ps []) (hx : ∀ σ, PassesAt CX X σ (E σ)) (ha : PA X (e :: es) t)
    (hst : starEach (e :: es) X.env = (false, eval e X.env) :: starEach es X.env := by rfl) (hpl : (backTo pos (starEach es X.env)).any (·.1) = false := by rfl)
    (ht : eval (.Call (.Attribute o m apos) (e :: es) [] pos) X.env = (do
      let ov ← eval o X.env
      standAt apos.atName
      let (f, first) ← holding [ov] (getMethod ov m pl)
      callWith pos f first (backTo pos (starEach (e :: es) X.env)) (backToKw pos (keywordEach [] X.env))) := by rfl) :
    PE X (.Call (.Attribute o m apos) (e :: es) [] pos) (tMethS C m sp E ta t) := by
  refine ⟨fun pins s σ H Q I h => ?_⟩
  refine PySem.W.methodCall_KW (pl := pl) (thn (he.run pins s σ H _ I h) fun u s1 ⟨x, H1, I1, rx, a, dx, fs, ex, ea, l, q⟩ => ?_) ht
  subst ex
  obtain rfl : u = Value.ref a := rx
  refine getmeth_ok I1 ea c hm l ?_
  refine PySem.W.callWith_K (first := [.ref a]) (h₀ := X.base) I.ok.mod.kin hm.kp (thn (ha.run pos pins s1 σ H1 _ I1 q) fun us s2 ⟨vs, H2, I2, r, q2⟩ => ⟨I2.kIn, ?_⟩) hst hpl
  have q2 : sp (V.ref a :: (vs ++ [])) H2 Q (E σ) := q2
  rw [List.append_nil] at q2
  exact run_fnS (us := .ref a :: us) (vs := .ref a :: vs) F hr hb (hx σ) I2 (.cons rfl r) q2
theorem pe_methS0 (he : PE X o ta) (c : Cls X.K C) (hm : Meth X.K C m f) (F : FnOk X.prog X.w X.K X.mg X.base CX k f fd ps sp) (hr : Room k X.A) (hb : Binds X.K fd ps []) (hx : ∀ σ, PassesAt CX X σ (E σ))
    (ht : eval (.Call (.Attribute o m apos) [] [] pos) X.env = (do
      let ov ← eval o X.env
      standAt apos.atName
      let (f, first) ← holding [ov] (getMethod ov m pl)
      callWith pos f first (backTo pos (starEach [] X.env)) (backToKw pos (keywordEach [] X.env))) := by rfl) :
    PE X (.Call (.Attribute o m apos) [] [] pos) (tMethS C m sp E ta tNil) := by
  refine ⟨fun pins s σ H Q I h => ?_⟩
  refine PySem.W.methodCall_KW (pl := pl) (thn (he.run pins s σ H _ I h) fun u s1 ⟨x, H1, I1, rx, a, dx, fs, ex, ea, l, q⟩ => ?_) ht
  subst ex
  obtain rfl : u = Value.ref a := rx
  refine getmeth_ok I1 ea c hm l ?_
  exact PySem.W.callWith_K0 (first := [.ref a]) I1.kIn hm.kp (run_fnS (us := [.ref a]) (vs := [.ref a]) F hr hb (hx σ) I1 (.cons rfl .nil) q)
end
/-- a method that may raise -/
structure CalEX (Pr : Program) (wd : World) (K : PySem.W.Frag) (mg : Str → Option Value) (base : Heap) (C : Addr) (m : Str) (k : Nat) (ps : List Str) (sp : Sp) : Prop where
  ex : ∃ f fd, Cls K C ∧ Meth K C m f ∧ FnOk Pr wd K mg base (L2.CX Pr wd) k f fd ps sp ∧ Binds K fd ps []
/-- a def that may raise -/
structure CalX (Pr : Program) (wd : World) (K : PySem.W.Frag) (mg : Str → Option Value) (base : Heap) (x : Str) (k : Nat) (ps : List Str) (sp : Sp) : Prop where
  ex : ∃ f fd, FnOk Pr wd K mg base (L2.CX Pr wd) k f fd ps sp ∧ mg x = some (.ref f) ∧ PySem.W.keepIn K (.ref f) = true ∧ Binds K fd ps []
section
variable {X : Cx} {W : WX} {k : Nat} {C : Addr} {ps : List Str} {sp : Sp} {x m : Str} {p pos apos : Pos} {e o : Expr} {es : List Expr} {ta : TE} {t : TA} {pl : Sem Bool}
theorem pe_mthX (G : CalEX X.prog X.w X.K X.mg X.base C m k ps sp) (tk : Takes X W) (hr : Room k X.A) (he : PE X o ta) (ha : PA X (e :: es) t)
    (hst : starEach (e :: es) X.env = (false, eval e X.env) :: starEach es X.env := by rfl) (hpl : (backTo pos (starEach es X.env)).any (·.1) = false := by rfl)
    (ht : eval (.Call (.Attribute o m apos) (e :: es) [] pos) X.env = (do
      let ov ← eval o X.env
      standAt apos.atName
      let (f, first) ← holding [ov] (getMethod ov m pl)
      callWith pos f first (backTo pos (starEach (e :: es) X.env)) (backToKw pos (keywordEach [] X.env))) := by rfl) :
    PE X (.Call (.Attribute o m apos) (e :: es) [] pos) (tMethS C m sp (WE W) ta t) := by
  obtain ⟨f, fd, c, hm, F, hb⟩ := G.ex
  exact pe_methS he c hm F hr hb (fun σ => passAt tk σ) ha hst hpl ht
theorem pe_mthX0 (G : CalEX X.prog X.w X.K X.mg X.base C m k ps sp) (tk : Takes X W) (hr : Room k X.A) (he : PE X o ta)
    (ht : eval (.Call (.Attribute o m apos) [] [] pos) X.env = (do
      let ov ← eval o X.env
      standAt apos.atName
      let (f, first) ← holding [ov] (getMethod ov m pl)
      callWith pos f first (backTo pos (starEach [] X.env)) (backToKw pos (keywordEach [] X.env))) := by rfl) :
    PE X (.Call (.Attribute o m apos) [] [] pos) (tMethS C m sp (WE W) ta tNil) := by
  obtain ⟨f, fd, c, hm, F, hb⟩ := G.ex
  exact pe_methS0 he c hm F hr hb (fun σ => passAt tk σ) ht
theorem pe_calX (G : CalX X.prog X.w X.K X.mg X.base x k ps sp) (tk : Takes X W) (hr : Room k X.A) (hg : Gl X x) (ha : PA X (e :: es) t) (hdb : (x == ("__debug__" : Str)) = false := by decide)
    (he : starEach (e :: es) X.env = (false, eval e X.env) :: starEach es X.env := by rfl) (hpl : (backTo pos (starEach es X.env)).any (·.1) = false := by rfl) :
    PE X (.Call (.Name x p) (e :: es) [] pos) (tCallS sp (WE W) t) := by
  obtain ⟨f, fd, F, hm, hk, hb⟩ := G.ex
  exact pe_callS F hr hg hm hk hb (fun σ => passAt tk σ) ha hdb he hpl
end
/-! ### expressions that may raise and change a tree of the frame -/
def EvMX (K : PySem.W.Frag) (W : WX) (te : TE) (env : List Sl) (P : Sl → List Sl → Prop) (Z : XP) : Prop := ∀ (en : En) (w : Wd) (σ : TSt), Rel K en w env σ → WOk K en w Z W → ∀ Q : VK,
  (∀ s v (w' : Wd) env', StS s → Same w.B w'.B → Rel K en w' (env' ++ [s]) (σ ++ [some v]) → P s env' → Q v w'.H) → te σ w.H Q
section
variable {K : PySem.W.Frag} {W : WX} {Z : XP} {env : List Sl} {Pp : Post} {w w' w'' w3 : Wd} {te ta tb tc td ti : TE} {tt : TT} {tb2 : TS} {tA : TA} {en : En} {Pm : Sl → List Sl → Prop} {P : Sl → Prop}
theorem emx_of (h : EvM K te env Pm) : EvMX K W te env Pm Z := fun en w σ R _ Q q => h en w σ R Q q
theorem emx_ex (h : EvX K W te env (fun s => StS s ∧ Pm s env) Z) : EvMX K W te env Pm Z := fun en w σ R O Q q =>
  h en w σ R O _ fun s v w1 e1 p1 r1 => q s v w1 env p1.1 e1.b (R.push e1 r1 p1.1) p1.2
/-- o.m(data ..) that may raise, o the variable i -/
theorem emx_meth {i : Nat} {C : Addr} {m : Str} {S : SpX} {xs : List (Str × OT)} (e : env[i]? = some (.own (.ins C xs)) ∨ env[i]? = some (.io (.ins C xs))) (hm : xs.lookup m = none)
    (h : EvA K tA env fun ss => ∃ ds : List D, ss = ds.map .val ∧ S (.io (.ins C xs) :: ds.map .val) (fun s as' => ∃ t', as'[0]? = some (.io t') ∧ Pm s (putS env i t')) fun C' d as' => ∃ t', as'[0]? = some (.io t') ∧ Z C' d (putS env i t')) :
    EvMX K W (tMethS C m (spX K S) (WE W) (tVar i) tA) env Pm Z := fun en w σ R O Q q => by
  have hv : ∃ a dx vs0, σ[i]? = some (some (.ref a)) ∧ w.H a = some (.ins C dx vs0) ∧ vs0.map (·.1) = xs.map (·.1) := by
    obtain ⟨F, R⟩ := R
    have hil : i < env.length := by rcases e with e | e <;> exact (List.getElem?_eq_some_iff.mp e).1
    obtain ⟨s, o, q1, q2⟩ := slot_at hil R.len
    have own : ∃ v0, o = some v0 ∧ Own K en.w0.H w (.ins C xs) v0 (F i) := by
      rcases e with e | e
      · obtain ⟨v', z, r⟩ := R.sl i _ _ e q2; exact ⟨_, z, r⟩
      · obtain ⟨⟨v', z, r⟩, _⟩ := R.sl i _ _ e q2; exact ⟨_, z, r⟩
    obtain ⟨v0, rfl, ow, _⟩ := own
    generalize F i = fp at ow
    cases ow with
    | ins h1 h2 _ => exact ⟨_, _, _, q2, h1, h2⟩
  obtain ⟨a, dx, vs0, hv, ha, ek⟩ := hv
  refine ⟨.ref a, hv, a, dx, vs0, rfl, ha, look_none ek hm, h en w σ R _ fun ss vs w1 e1 p1 r1 => ?_⟩
  obtain ⟨ds, rfl, p⟩ := p1
  rw [List.append_nil]
  obtain ⟨F, R1⟩ := R.grow e1
  obtain ⟨w0, hB, h1, h2, Rc⟩ := rel_args R1 e hv (dra_sla r1)
  refine ⟨⟨w0, .ref a :: vs⟩, w1, .io (.ins C xs) :: ds.map .val, _, _, rfl, rfl, Rc, p, fun s v w' as' st sb R' z => ?_, fun C' dx' d v w' as' sb R' hx z => ?_⟩
  · obtain ⟨t', h0, p⟩ := z
    exact q s v w' _ st (e1.b.trans sb) (back_io R1 e hv hB h1 h2 st sb R' h0) p
  · obtain ⟨t', h0, p⟩ := z
    have Rb := back_io R1 e hv hB h1 h2 (.val d) sb R' h0
    exact O C' dx' d v w' σ (putS env i t') (e1.b.trans sb) (by rw [putS_len]; exact R.len.symm) (by rw [putS_len]; exact R.an) Rb hx p
/-- f(x, data ..) that may raise, x the variable i -/
theorem emx_call {i : Nat} {t : OT} {S : SpX} (e : env[i]? = some (.own t) ∨ env[i]? = some (.io t))
    (h : EvA K tA env fun ss => ∃ ds : List D, ss = ds.map .val ∧ S (.io t :: ds.map .val) (fun s as' => ∃ t', as'[0]? = some (.io t') ∧ Pm s (putS env i t')) fun C' d as' => ∃ t', as'[0]? = some (.io t') ∧ Z C' d (putS env i t')) :
    EvMX K W (tCallS (spX K S) (WE W) (tCons (tVar i) tA)) env Pm Z := fun en w σ R O Q q => by
  have hv : ∃ v0, σ[i]? = some (some v0) := by
    obtain ⟨F, R⟩ := R
    have hil : i < env.length := by rcases e with e | e <;> exact (List.getElem?_eq_some_iff.mp e).1
    obtain ⟨s, o, q1, q2⟩ := slot_at hil R.len
    rcases e with e | e
    · obtain ⟨v', z, r⟩ := R.sl i _ _ e q2; exact ⟨_, z ▸ q2⟩
    · obtain ⟨⟨v', z, r⟩, _⟩ := R.sl i _ _ e q2; exact ⟨_, z ▸ q2⟩
  obtain ⟨v0, hv⟩ := hv
  refine ⟨v0, hv, h en w σ R _ fun ss vs w1 e1 p1 r1 => ?_⟩
  obtain ⟨ds, rfl, p⟩ := p1
  obtain ⟨F, R1⟩ := R.grow e1
  obtain ⟨w0, hB, h1, h2, Rc⟩ := rel_args R1 e hv (dra_sla r1)
  refine ⟨⟨w0, v0 :: vs⟩, w1, .io t :: ds.map .val, _, _, rfl, rfl, Rc, p, fun s v w' as' st sb R' z => ?_, fun C' dx' d v w' as' sb R' hx z => ?_⟩
  · obtain ⟨t', h0, p⟩ := z
    exact q s v w' _ st (e1.b.trans sb) (back_io R1 e hv hB h1 h2 st sb R' h0) p
  · obtain ⟨t', h0, p⟩ := z
    have Rb := back_io R1 e hv hB h1 h2 (.val d) sb R' h0
    exact O C' dx' d v w' σ (putS env i t') (e1.b.trans sb) (by rw [putS_len]; exact R.len.symm) (by rw [putS_len]; exact R.an) Rb hx p
/-- f(..) that may raise and changes nothing here -/
theorem evx_call {S : SpX} (h : EvA K tA env fun ss => ∃ ts, Paired Co ss ts ∧ S ts (fun s _ => P s) fun C' d _ => Z C' d env) : EvX K W (tCallS (spX K S) (WE W) tA) env P Z := fun en w σ R O Q q =>
  h en w σ R _ fun ss vs w1 e1 h1 r1 => by
    obtain ⟨ts, c, p⟩ := h1
    obtain ⟨hl, hk⟩ := coA (us := vs) c r1
    exact ⟨⟨w1, vs⟩, w1, ts, fun s _ => P s, fun C' d _ => Z C' d env, rfl, rfl, ⟨fun _ => [], w1.rfl', by simp [hl], by simp [hl], fun i t o a b => hk i t o a b i, fun i j p _ _ z => by simp at z⟩, p, fun s v w' as' st _ R' z =>
      q s v w' (e1.trans R'.le) z ((Rel.last st R').back e1), fun C' dx' d v w' as' sb R' hx z => by
        have le : w.le w' := e1.trans R'.le
        have hr : SlN K w1 w' (.val d) v := Rel.last (.val _) R'
        exact O C' dx' d v w' σ env le.b R.len.symm R.an (R.push le (show SlN K w w' (.val d) v from hr) (.val d)) hx z⟩
theorem wpx_asgM {i : Nat} (h : EvMX K W te env (fun s env' => env'.length = env.length ∧ Pp.nx (env'.set i s)) Z) : WpX K W (tAsg te (gName i)) env Pp Z := fun en w σ R O D hn _ _ _ =>
  h en w σ R O _ fun s v w1 env' st sb R1 p => hn w1 _ _ sb (Rel.pop st R1 (by rw [p.1]; exact R.an)).1 p.2
theorem wpx_dropM (h : EvMX K W te env (fun _ env' => env'.length = env.length ∧ Pp.nx env') Z) : WpX K W (tDrop te) env Pp Z := fun en w σ R O D hn _ _ _ =>
  h en w σ R O _ fun s v w1 env' st sb R1 p => hn w1 _ _ sb (Rel.pop (j := 0) st R1 (by rw [p.1]; exact R.an)).2 p.2
theorem wpx_ret (h : EvX K W te env (fun s => StS s ∧ Pp.rt s env) Z) : WpX K W (tRet te) env Pp Z := fun en w σ R O D _ _ _ hr =>
  h en w σ R O _ fun s v w1 e1 p1 r1 => hr s v w1 σ env p1.1 e1.b R.len.symm R.an (R.push e1 r1 p1.1) p1.2
theorem wpx_retM (h : EvMX K W te env (fun s env' => env'.length = env.length ∧ Pp.rt s env') Z) : WpX K W (tRet te) env Pp Z := fun en w σ R O D _ _ _ hr =>
  h en w σ R O _ fun s v w1 env' st sb R1 p => hr s v w1 σ env' st sb (by rw [p.1]; exact R.len.symm) (by rw [p.1]; exact R.an) R1 p.2
theorem wpx_while (Inv : Nat → List Sl → Prop) (m : Nat) (h0 : Inv m env)
    (hs : ∀ m env', Inv m env' → EvT K tt env' fun b => (b = true → WpX K W tb2 env' (Post.loop Pp fun e => ∃ m', m' < m ∧ Inv m' e) Z) ∧ (b = false → Pp.nx env')) :
    WpX K W (tWhile tt tb2) env Pp Z := fun en w σ R O D hn hb hc hr => by
  refine ⟨fun m σ' H' => ∃ w' env', w'.H = H' ∧ Same w.B w'.B ∧ Rel K en w' env' σ' ∧ Inv m env', ⟨m, w, env, rfl, Same.refl _, R, h0⟩, ?_⟩
  rintro m σ' _ ⟨w', env', rfl, sb, R', i⟩
  refine hs m env' i en w' σ' R' _ fun b w1 e1 p => ?_
  have sb1 := sb.trans e1.b
  cases b with
  | false =>
    rw [if_neg (by decide)]
    exact hn w1 σ' env' sb1 (R'.grow e1) (p.2 rfl)
  | true =>
    rw [if_pos rfl]
    refine ⟨fun σ2 H2 => ∃ w2 env2, w2.H = H2 ∧ Same w.B w2.B ∧ Rel K en w2 env2 σ2 ∧ ∃ m', m' < m ∧ Inv m' env2, fun σ2 H2 ⟨w2, env2, a, b, c, m', d, e⟩ => ⟨m', d, w2, env2, a, b, c, e⟩, ?_⟩
    exact p.1 rfl en w1 σ' (R'.grow e1) (O.back sb1) _ (fun w2 σ2 e2 s2 R2 n => ⟨w2, e2, rfl, sb1.trans s2, R2, n⟩) (fun w2 σ2 e2 s2 R2 n => hn w2 σ2 e2 (sb1.trans s2) R2 n)
      (fun w2 σ2 e2 s2 R2 n => ⟨w2, e2, rfl, sb1.trans s2, R2, n⟩) (hr.back sb1)
end
end DL

set_option Elab.async false
set_option linter.all false
set_option maxRecDepth 100000
set_option autoImplicit false
/-! ### list(zip(a, b)), two tuples -/
namespace RZ
open PySem
open PySem.Sem (wp)
open PySem.W (KdxIt kdx_alive)
section
variable {prog : Program} {w : World} {A : Around} {E : Value → Shared → Prop} {s : Shared}
theorem zipT_next_item_held {z TI TO T i1 i2 l1 l2 : Addr} {f : Bool} {oT : Obj} {k1 k2 : Nat} {xs ys : Array Value} {x y : Value} {Q : Value → Shared → Prop} (D : ZipApart z TI TO i1 i2 l1 l2)
    (hz : IsZipHeld s.heap z TI TO T f) (hT : s.heap.get? T = some oT) (hTI : IsPair s.heap TI (.ref i1) (.ref i2))
    (h1 : s.heap.IsTupleIter i1 l1 k1) (h2 : s.heap.IsTupleIter i2 l2 k2) (hl1 : s.heap.IsTuple l1 xs) (hl2 : s.heap.IsTuple l2 ys) (hx : xs[k1]? = some x) (hy : ys[k2]? = some y)
    (hQ : ∀ h', IsZipHeld h' z TI TO T true → h'.IsTupleIter i1 l1 (k1 + 1) → h'.IsTupleIter i2 l2 (k2 + 1) → IsPair h' s.heap.objs.size x y → h'.objs.size = s.heap.objs.size + 1 →
      (∀ c o, c ≠ z → c ≠ i1 → c ≠ i2 → s.heap.get? c = some o → h'.get? c = some o) → Q (.ref s.heap.objs.size) { s with heap := h' }) :
    wpAny (model prog w) A (Builtin.«zip.__next__» ⟨[.ref z], []⟩) (fun fin s' => ∃ v, fin = .done (.ret v) ∧ Q v s') E s := by
  show wpAny _ _ (field (.ref z) 2 >>= _) _ _ _
  refine wpAny_bind (wpAny_field hz rfl (x := .bool false) rfl ?_)
  show wpAny _ _ (field (.ref z) 3 >>= _) _ _ _
  refine wpAny_bind (wpAny_field hz rfl (x := .ref TI) rfl ?_)
  refine wpAny_bind (wpAny_seqItems hTI rfl ?_)
  show wpAny _ _ (Builtin.SmallTypes.ownedTupleIsFree (.ref z) >>= _) _ _ _
  refine wpAny_bind (wpAny_tupleHeld_zip hz hT fun h₁ hz₁ hs₁ => ?_)
  simp only [Bool.false_eq_true, if_false]
  refine wpAny_bind ?_
  rw [← Array.forIn_toList]
  simp only [List.forIn_cons, List.forIn_nil]
  refine wpAny_bind (wpAny_bind (wpAny_holding ?_))
  show wpAny _ _ (Builtin.SmallTypes.nextOf (.ref i1) >>= _) _ _ _
  refine wpAny_bind (nextOf_tuple_item (s := { s with heap := h₁ }) (h1.extBut hs₁.extBut D.i1z) (hl1.extBut hs₁.extBut D.l1z) hx fun h₂ h1₂ hs₂ => wpAny_pure ?_)
  refine wpAny_pure ?_
  refine wpAny_bind (wpAny_bind (wpAny_holding ?_))
  show wpAny _ _ (Builtin.SmallTypes.nextOf (.ref i2) >>= _) _ _ _
  refine wpAny_bind (nextOf_tuple_item (s := { s with heap := h₂ }) ((h2.extBut hs₁.extBut D.i2z).extBut hs₂.extBut D.i12.symm) ((hl2.extBut hs₁.extBut D.l2z).extBut hs₂.extBut D.l2i1) hy fun h₃ h2₃ hs₃ => wpAny_pure ?_)
  refine wpAny_pure (wpAny_pure ?_)
  show wpAny _ _ (newTuple [x, y] >>= _) _ _ _
  refine wpAny_bind (wpAny_newTuple ?_)
  have hsz : h₃.objs.size = s.heap.objs.size := by rw [hs₃.1, hs₂.1, hs₁.1]
  have hz₃ : IsZipHeld h₃ z TI TO T true := hs₃.extBut _ _ D.i2z.symm (hs₂.extBut _ _ D.i1z.symm hz₁)
  have hk : ∀ c o, c ≠ z → c ≠ i1 → c ≠ i2 → s.heap.get? c = some o → h₃.get? c = some o := fun c o c1 c2 c3 e => hs₃.extBut _ _ c3 (hs₂.extBut _ _ c2 (hs₁.extBut _ _ c1 e))
  have h1₃ : h₃.IsTupleIter i1 l1 (k1 + 1) := h1₂.extBut hs₃.extBut D.i12
  refine wpAny_pure ⟨_, rfl, ?_⟩
  show Q (.ref h₃.objs.size) _
  have hp : IsPair (h₃.push { cls := .type "tuple", data := .seq #[x, y] }) h₃.objs.size x y := Heap.get?_push_size _ rfl
  have hz4 : (h₃.push { cls := .type "tuple", data := .seq #[x, y] }).objs.size = h₃.objs.size + 1 := Heap.size_push ..
  rw [hsz] at hp hz4 ⊢
  exact hQ _ (Heap.get?_push_of_some _ hz₃) (h1₃.at fun o e => Heap.get?_push_of_some _ e) (h2₃.at fun o e => Heap.get?_push_of_some _ e) hp hz4 fun c o c1 c2 c3 e => Heap.get?_push_of_some _ (hk c o c1 c2 c3 e)
theorem zipT_next_end_held {z TI TO T i1 i2 l1 l2 : Addr} {f : Bool} {oT : Obj} {k1 : Nat} {xs : Array Value} {Q : Fin → Shared → Prop} (hh : A.handled = none) (D : ZipApart z TI TO i1 i2 l1 l2)
    (hz : IsZipHeld s.heap z TI TO T f) (hT : s.heap.get? T = some oT) (hTI : IsPair s.heap TI (.ref i1) (.ref i2))
    (h1 : s.heap.IsTupleIter i1 l1 k1) (hl1 : s.heap.IsTuple l1 xs) (hx : xs[k1]? = none)
    (hE : ∀ h' e, (∀ c o, c ≠ z → c ≠ i1 → c ≠ i2 → s.heap.get? c = some o → h'.get? c = some o) → (∃ o, h'.get? e = some o ∧ o.cls = .type "StopIteration") → E (.ref e) { s with heap := h' }) :
    wpAny (model prog w) A (Builtin.«zip.__next__» ⟨[.ref z], []⟩) Q E s := by
  show wpAny _ _ (field (.ref z) 2 >>= _) _ _ _
  refine wpAny_bind (wpAny_field hz rfl (x := .bool false) rfl ?_)
  show wpAny _ _ (field (.ref z) 3 >>= _) _ _ _
  refine wpAny_bind (wpAny_field hz rfl (x := .ref TI) rfl ?_)
  refine wpAny_bind (wpAny_seqItems hTI rfl ?_)
  show wpAny _ _ (Builtin.SmallTypes.ownedTupleIsFree (.ref z) >>= _) _ _ _
  refine wpAny_bind (wpAny_tupleHeld_zip hz hT fun h₁ hz₁ hs₁ => ?_)
  simp only [Bool.false_eq_true, if_false]
  refine wpAny_bind ?_
  rw [← Array.forIn_toList]
  simp only [List.forIn_cons, List.forIn_nil]
  refine wpAny_bind (wpAny_bind (wpAny_holding ?_))
  show wpAny _ _ (Builtin.SmallTypes.nextOf (.ref i1) >>= _) _ _ _
  refine wpAny_bind (nextOf_tuple_end (s := { s with heap := h₁ }) hh (h1.extBut hs₁.extBut D.i1z) (hl1.extBut hs₁.extBut D.l1z) hx fun h₂ e hs₂ he => ?_)
  exact hE h₂ e (fun c o c1 c2 _ x => hs₂ _ _ c2 (hs₁.extBut _ _ c1 x)) he
theorem pyNext_zipT_item_held {z TI TO T i1 i2 l1 l2 : Addr} {f : Bool} {oT : Obj} {k1 k2 : Nat} {xs ys : Array Value} {x y : Value} {Q : Option Value → Shared → Prop} (D : ZipApart z TI TO i1 i2 l1 l2)
    (hz : IsZipHeld s.heap z TI TO T f) (hT : s.heap.get? T = some oT) (hTI : IsPair s.heap TI (.ref i1) (.ref i2))
    (h1 : s.heap.IsTupleIter i1 l1 k1) (h2 : s.heap.IsTupleIter i2 l2 k2) (hl1 : s.heap.IsTuple l1 xs) (hl2 : s.heap.IsTuple l2 ys) (hx : xs[k1]? = some x) (hy : ys[k2]? = some y)
    (hQ : ∀ h', IsZipHeld h' z TI TO T true → h'.IsTupleIter i1 l1 (k1 + 1) → h'.IsTupleIter i2 l2 (k2 + 1) → IsPair h' s.heap.objs.size x y → h'.objs.size = s.heap.objs.size + 1 →
      (∀ c o, c ≠ z → c ≠ i1 → c ≠ i2 → s.heap.get? c = some o → h'.get? c = some o) → Q (some (.ref s.heap.objs.size)) { s with heap := h' }) :
    wpAny (model prog w) A (pyNext (.ref z)) Q E s := by
  have hTy : s.TypeIs (.ref z) "zip" := ⟨_, hz, rfl⟩
  unfold pyNext
  exact wpAny_bind (wpAny_attempt (wpAny_callSpecial?_slot (name := Str.ofString "__next__") hTy F.slot_zip_next
    (wpAny_call_entry F.slot_zip_next hTy F.entry_zip_next
      (zipT_next_item_held D hz hT hTI h1 h2 hl1 hl2 hx hy fun h' a1 a3 a4 a5 a6 a7 => wpAny_pure (hQ h' a1 a3 a4 a5 a6 a7)) (F.args_zip_next_1 _))))
theorem pyNext_zipT_end_held {z TI TO T i1 i2 l1 l2 : Addr} {f : Bool} {oT : Obj} {k1 : Nat} {xs : Array Value} {Q : Option Value → Shared → Prop} (hh : A.handled = none) (D : ZipApart z TI TO i1 i2 l1 l2)
    (hz : IsZipHeld s.heap z TI TO T f) (hT : s.heap.get? T = some oT) (hTI : IsPair s.heap TI (.ref i1) (.ref i2))
    (h1 : s.heap.IsTupleIter i1 l1 k1) (hl1 : s.heap.IsTuple l1 xs) (hx : xs[k1]? = none)
    (hQ : ∀ h', (∀ c o, c ≠ z → c ≠ i1 → c ≠ i2 → s.heap.get? c = some o → h'.get? c = some o) → Q none { s with heap := h' }) : wpAny (model prog w) A (pyNext (.ref z)) Q E s := by
  have hTy : s.TypeIs (.ref z) "zip" := ⟨_, hz, rfl⟩
  unfold pyNext
  refine wpAny_bind (wpAny_attempt (wpAny_callSpecial?_slot (name := Str.ofString "__next__") hTy F.slot_zip_next
    (wpAny_call_entry F.slot_zip_next hTy F.entry_zip_next (zipT_next_end_held hh D hz hT hTI h1 hl1 hx fun h' e hk he => ?_) (F.args_zip_next_1 _))))
  obtain ⟨o, ho, hc⟩ := he
  refine wpAny_bind (wpAny_isInstance (T := "StopIteration") (b := true) ⟨o, ho, hc⟩ isSubtype_stop ?_)
  exact wpAny_pure (hQ _ hk)
end
theorem zip_no_len : typeLookup (.type "zip") "__len__" = pure none := by rw [typeLookup_type, builtinLookup_eq_fast]; kernel_rfl
theorem zip_no_hint : typeLookup (.type "zip") "__length_hint__" = pure none := by rw [typeLookup_type, builtinLookup_eq_fast]; kernel_rfl
end RZ

namespace DL
open PySem L2 PySem.Spec PyProof.Rows RZ
/-! the heap with new pairs -/
def mkT : Hp → List (Addr × V × V) → Hp
  | H, [] => H
  | H, t :: r => mkT (upd H t.1 (.tup [t.2.1, t.2.2])) r
def frT : Hp → List (Addr × V × V) → Prop
  | _, [] => True
  | H, t :: r => H t.1 = none ∧ frT (upd H t.1 (.tup [t.2.1, t.2.2])) r
theorem mkT_snoc {H : Hp} {l : List (Addr × V × V)} {t : Addr × V × V} : mkT H (l ++ [t]) = upd (mkT H l) t.1 (.tup [t.2.1, t.2.2]) := by
  induction l generalizing H with
  | nil => rfl
  | cons x r ih => exact ih
theorem frT_snoc {H : Hp} {l : List (Addr × V × V)} {t : Addr × V × V} : frT H (l ++ [t]) ↔ frT H l ∧ mkT H l t.1 = none := by
  induction l generalizing H with
  | nil => exact ⟨fun z => ⟨True.intro, z.1⟩, fun z => ⟨z.2, True.intro⟩⟩
  | cons x r ih =>
    show (H x.1 = none ∧ frT _ (r ++ [t])) ↔ (_ ∧ _) ∧ _
    rw [ih, and_assoc]
    exact Iff.rfl
theorem mkT_keep {l : List (Addr × V × V)} : ∀ {H : Hp}, frT H l → ∀ {p : Addr} {o : HO}, H p = some o → mkT H l p = some o := by
  induction l with
  | nil => exact fun _ _ _ e => e
  | cons x r ih =>
    intro H f p o e
    refine ih f.2 ?_
    rw [upd_ne (fun z => by rw [z, f.1] at e; cases e)]
    exact e
structure ZSt (S z TI TO i1 i2 a b : Addr) (i : Nat) (h : Heap) : Prop where
  ti : IsPair h TI (.ref i1) (.ref i2)
  to : ∃ x y, IsPair h TO x y
  a1 : h.IsTupleIter i1 a i
  a2 : h.IsTupleIter i2 b i
  zz : IsZip h z TI TO .none ∨ ∃ T f oT, IsZipHeld h z TI TO T f ∧ h.get? T = some oT ∧ T ∉ [S, z, TI, TO, i1, i2]
theorem ZSt.put {S z TI TO i1 i2 a b : Addr} {i : Nat} {h h' : Heap} (st : ZSt S z TI TO i1 i2 a b i h) (k : ∀ c o, c ≠ S → h.get? c = some o → h'.get? c = some o) (nS : S ∉ [z, TI, TO, i1, i2]) : ZSt S z TI TO i1 i2 a b i h' := by
  have ne : ∀ c ∈ [z, TI, TO, i1, i2], c ≠ S := fun c hc e => nS (e ▸ hc)
  refine ⟨k _ _ (ne TI (by simp)) st.ti, ?_, st.a1.at fun o e => k _ o (ne i1 (by simp)) e, st.a2.at fun o e => k _ o (ne i2 (by simp)) e, ?_⟩
  · obtain ⟨x, y, e⟩ := st.to
    exact ⟨x, y, k _ _ (ne TO (by simp)) e⟩
  · rcases st.zz with e | ⟨T, f, oT, e, eT, n⟩
    · exact .inl (k _ _ (ne z (by simp)) e)
    · exact .inr ⟨T, f, oT, k _ _ (ne z (by simp)) e, k _ _ (fun q => n (by simp [q])) eT, n⟩
abbrev lsO (acc : Array Value) (c : Nat) : Obj := { cls := .type "list", dict := none, data := .seq acc c, slots := #[] }
section
variable {X : Cx} {pins : List (Addr × Obj)} {σ : TSt} {a b z TI TO i1 i2 S : Addr} {xs ys : List V} {A : Around} {R : Result → Shared → Prop} {res : Value} {H0 : Hp}
theorem FpOk.tup {H : Hp} {c T : Addr} {x y : V} (f : FpOk X pins H c) (ne : c ≠ T) : FpOk X pins (upd H T (.tup [x, y])) c := ⟨by rw [upd_ne ne]; exact f.1, f.2⟩
theorem zip_step (D : ZipApart z TI TO i1 i2 a b) {i : Nat} {s : Shared} {H : Hp} {M : Around} {E : Value → Shared → Prop} (I : Inv X pins σ H s) (qa : SqT X.K H a xs) (qb : SqT X.K H b ys) {x y : V} (hx : xs[i]? = some x) (hy : ys[i]? = some y)
    (nS : S ∉ [z, TI, TO, i1, i2]) (hf : ∀ c ∈ [z, TI, TO, i1, i2], FpOk X pins H c) (hS : ∃ o, s.heap.get? S = some o) (st : ZSt S z TI TO i1 i2 a b i s.heap) {Q : Option Value → Shared → Prop}
    (hQ : ∀ (h' : Heap), H s.heap.objs.size = none → Inv X pins σ (upd H s.heap.objs.size (.tup [x, y])) { s with heap := h' } → (∀ c ∈ [S, z, TI, TO, i1, i2], c ≠ s.heap.objs.size) → ZSt S z TI TO i1 i2 a b (i + 1) h' →
      (∀ c o, c ∉ [z, TI, TO, i1, i2] → s.heap.get? c = some o → h'.get? c = some o) → Q (some (.ref s.heap.objs.size)) { s with heap := h' }) :
    wpAny (model X.prog X.w) M (pyNext (.ref z)) Q E s := by
  obtain ⟨its, rv, p, _⟩ := I.tuple qa
  obtain ⟨its2, rv2, p2, _⟩ := I.tuple qb
  obtain ⟨u, hu, ru⟩ := rv.get hx
  obtain ⟨u2, hu2, ru2⟩ := rv2.get hy
  obtain ⟨oS, hS⟩ := hS
  have lt : ∀ c ∈ [S, z, TI, TO, i1, i2], c ≠ s.heap.objs.size := fun c hc => by
    have e' : c = S ∨ c = z ∨ c = TI ∨ c = TO ∨ c = i1 ∨ c = i2 := by simpa using hc
    rcases e' with q | q | q | q | q | q
    · rw [q]; exact Nat.ne_of_lt (Heap.lt_size hS)
    · rw [q]
      rcases st.zz with e | ⟨T, f, oT, e, _⟩ <;> exact Nat.ne_of_lt (Heap.lt_size e)
    · rw [q]; exact Nat.ne_of_lt (Heap.lt_size st.ti)
    · rw [q]; obtain ⟨_, _, e⟩ := st.to; exact Nat.ne_of_lt (Heap.lt_size e)
    · rw [q]; obtain ⟨_, e, _⟩ := st.a1; exact Nat.ne_of_lt (Heap.lt_size e)
    · rw [q]; obtain ⟨_, e, _⟩ := st.a2; exact Nat.ne_of_lt (Heap.lt_size e)
  have new : ∀ {h' : Heap}, IsPair h' s.heap.objs.size u u2 → ObjOk X.prog X.w (upd H s.heap.objs.size (.tup [x, y])) h' s.heap.objs.size (.tup [x, y]) := fun e =>
    ⟨by show 2 ≤ sizeLine; decide, [u, u2], .cons ru (.cons ru2 .nil), ⟨_, e, rfl, _, rfl⟩⟩
  rcases st.zz with e | ⟨T, f, oT, e, eT, nT⟩
  · obtain ⟨x0, y0, hTO⟩ := st.to
    refine pyNext_zipT_item D e st.ti hTO st.a1 st.a2 p p2 (x := u) (y := u2) (by simpa using hu) (by simpa using hu2) fun h' z' TO' h1' h2' hT hsz hk => ?_
    have hk' : ∀ c o, c ∉ [z, TI, TO, i1, i2] → s.heap.get? c = some o → h'.get? c = some o := fun c o hc q => hk c o (fun q' => hc (by simp [q'])) (fun q' => hc (by simp [q'])) (fun q' => hc (by simp [q'])) (fun q' => hc (by simp [q'])) q
    refine hQ h' (I.hok.fresh (Nat.le_refl _)) (I.turnedNew (t' := s.toks) hk' hf (Nat.le_refl _) (new hT)) lt ⟨hk _ _ D.TIz D.TITO D.TIi1 D.TIi2 st.ti, ⟨_, _, TO'⟩, h1', h2', .inr ⟨_, false, _, z', hT, fun q => lt _ q rfl⟩⟩ hk'
  · refine pyNext_zipT_item_held D e eT st.ti st.a1 st.a2 p p2 (x := u) (y := u2) (by simpa using hu) (by simpa using hu2) fun h' z' h1' h2' hT hsz hk => ?_
    have hk' : ∀ c o, c ∉ [z, TI, TO, i1, i2] → s.heap.get? c = some o → h'.get? c = some o := fun c o hc q => hk c o (fun q' => hc (by simp [q'])) (fun q' => hc (by simp [q'])) (fun q' => hc (by simp [q'])) q
    obtain ⟨x0, y0, hTO⟩ := st.to
    refine hQ h' (I.hok.fresh (Nat.le_refl _)) (I.turnedNew (t' := s.toks) hk' hf (Nat.le_refl _) (new hT)) lt ⟨hk _ _ D.TIz D.TIi1 D.TIi2 st.ti, ⟨_, _, hk _ _ D.TOz D.TOi1 D.TOi2 hTO⟩, h1', h2', .inr ⟨T, true, oT, z', hk _ _ (fun q => nT (by simp [q])) (fun q => nT (by simp [q])) (fun q => nT (by simp [q])) eT, nT⟩⟩ hk'
theorem same_tup {H : Hp} {T : Addr} {o : HO} (h : H T = none) : Same H (upd H T o) := fun p u e => by rw [upd_ne (fun z => by rw [z, h] at e; cases e)]; exact e
theorem zip_loop (D : ZipApart z TI TO i1 i2 a b) (hl : xs.length = ys.length) (hz : xs.length ≤ 1000) (hh : A.handled = none) (nS : S ∉ [z, TI, TO, i1, i2])
    (hR : ∀ (s' : Shared) (L : List (Addr × V × V)) (acc : Array Value) (c : Nat), frT H0 L → Inv X pins σ (mkT H0 L) s' → FpOk X pins (mkT H0 L) S → L.map (·.2) = xs.zip ys → acc.toList = L.map (fun t => Value.ref t.1) → s'.heap.get? S = some (lsO acc c) → R (.ok (.ret res)) s') :
    ∀ (k i : Nat) (s : Shared) (L : List (Addr × V × V)) (acc : Array Value) (c : Nat), xs.length - i = k → i ≤ xs.length → frT H0 L → Inv X pins σ (mkT H0 L) s → SqT X.K (mkT H0 L) a xs → SqT X.K (mkT H0 L) b ys → (∀ c ∈ [z, TI, TO, i1, i2], FpOk X pins (mkT H0 L) c) → FpOk X pins (mkT H0 L) S →
      s.heap.get? S = some (lsO acc c) → ZSt S z TI TO i1 i2 a b i s.heap → L.map (·.2) = (xs.zip ys).take i → acc.toList = L.map (fun t => Value.ref t.1) →
      codeAny (model X.prog X.w) A (.builtin "list.extend.loop" ⟨[.ref S, .ref z, res], []⟩) R s := by
  intro k
  induction k with
  | zero =>
    intro i s L acc c hk hi fr I qa qb hf hfS hS st e1 e2
    have hin : i = xs.length := by omega
    subst hin
    obtain ⟨its, rv, p, _⟩ := I.tuple qa
    obtain ⟨its2, rv2, p2, _⟩ := I.tuple qb
    have l1 := rv.length
    have hx : its.toArray[xs.length]? = none := by simp; omega
    refine codeAny_builtin F.entry_extend_loop ?_
    rw [Around.under_plainId F.plain_extend_loop _]
    show wpAny _ A.in1 (pyNext (.ref z) >>= _) _ _ s
    have fin : ∀ h' : Heap, (∀ c o, c ∉ [z, TI, TO, i1, i2] → s.heap.get? c = some o → h'.get? c = some o) → R (.ok (.ret res)) { s with heap := h' } := fun h' hk' => by
      refine hR _ L acc c fr (I.turnedL (t' := s.toks) hk' hf) hfS ?_ e2 (hk' _ _ nS hS)
      rw [e1, List.take_of_length_le (by rw [List.length_zip]; omega)]
    rcases st.zz with e | ⟨T, f, oT, e, eT, nT⟩
    · obtain ⟨x0, y0, hTO⟩ := st.to
      exact wpAny_bind (pyNext_zipT_end hh D e st.ti hTO st.a1 st.a2 p p2 (.inl hx) fun h' hk' => wpAny_pure (fin h' fun c o hc q => hk' c o (fun q' => hc (by simp [q'])) (fun q' => hc (by simp [q'])) (fun q' => hc (by simp [q'])) (fun q' => hc (by simp [q'])) q))
    · exact wpAny_bind (pyNext_zipT_end_held hh D e eT st.ti st.a1 p hx fun h' hk' => wpAny_pure (fin h' fun c o hc q => hk' c o (fun q' => hc (by simp [q'])) (fun q' => hc (by simp [q'])) (fun q' => hc (by simp [q'])) q))
  | succ k ih =>
    intro i s L acc c hk hi fr I qa qb hf hfS hS st e1 e2
    have hlt : i < xs.length := by omega
    refine codeAny_builtin F.entry_extend_loop ?_
    rw [Around.under_plainId F.plain_extend_loop _]
    show wpAny _ A.in1 (pyNext (.ref z) >>= _) _ _ s
    have hx : xs[i]? = some xs[i] := List.getElem?_eq_getElem hlt
    have hy : ys[i]? = some (ys[i]'(by omega)) := List.getElem?_eq_getElem _
    refine wpAny_bind (zip_step D I qa qb hx hy nS hf ⟨_, hS⟩ st fun h' hn I' ne st' hk' => ?_)
    have hS' := hk' _ _ nS hS
    have hsz : acc.size = i := by
      have : acc.toList.length = L.length := by rw [e2]; simp
      have h2 : L.length = i := by
        have := congrArg List.length e1
        simp at this; omega
      simpa [h2] using this
    have eL : mkT H0 (L ++ [(s.heap.objs.size, xs[i], ys[i]'(by omega))]) = upd (mkT H0 L) s.heap.objs.size (.tup [xs[i], ys[i]'(by omega)]) := mkT_snoc
    show wpAny _ A.in1 (updateSeq S (·.push (.ref s.heap.objs.size)) >>= _) _ _ _
    refine wpAny_bind ?_
    have hz2 : (1000 : Nat) < sizeLine := by rw [sizeLine_eq]; omega
    refine wpAny_updateSeq hS' rfl (wpAny_pure ⟨plainId_quiet F.plain_extend_loop _, ih (i + 1) _ (L ++ [(s.heap.objs.size, xs[i], ys[i]'(by omega))]) (acc.push (.ref s.heap.objs.size)) _ (by omega) hlt (frT_snoc.mpr ⟨fr, hn⟩) ?_ ?_ ?_ ?_ ?_ (Heap.get?_update_self _ hS' rfl) (st'.put (fun c o hc e => (Heap.get?_update_other _ _ (Ne.symm hc)).trans e) nS) ?_ ?_⟩)
      (by rw [hsz]; omega) (by show (acc.push _).size ≤ sizeLine + 1; rw [Array.size_push, hsz]; omega)
    · rw [eL]
      exact I'.turnedL (t' := s.toks) (ch := [S]) (fun c o hc e => (Heap.get?_update_other _ _ (fun z => hc (by simp [z]))).trans e) fun c hc => by
        obtain rfl : c = S := by simpa using hc
        exact FpOk.tup hfS (ne _ (by simp))
    · rw [eL]; exact sameT (same_tup hn) qa
    · rw [eL]; exact sameT (same_tup hn) qb
    · intro c hc
      rw [eL]
      exact FpOk.tup (hf c hc) (ne c (List.mem_cons_of_mem _ hc))
    · rw [eL]
      exact FpOk.tup hfS (ne _ (by simp))
    · have hlz : i < (xs.zip ys).length := by rw [List.length_zip]; omega
      rw [List.map_append, e1, List.take_succ, List.getElem?_eq_getElem hlz]
      simp
    · rw [Array.toList_push, e2, List.map_append]
      rfl
theorem adopt {s : Shared} {H : Hp} {acc : Array Value} {c : Nat} {vs : List V} (I : Inv X pins σ H s) (f : FpOk X pins H S) (hS : s.heap.get? S = some (lsO acc c)) (rv : Vals vs acc.toList) (hz : vs.length ≤ sizeLine) : Inv X pins σ (upd H S (.lst vs)) s := by
  have hn : H S = none := f.1
  refine I.step (g' := s.gens) (d' := s.drawn) (t' := s.toks) (h' := s.heap) (ch := [S]) (fun b hb => ?_) (fun b o _ _ hc e _ => e) (fun b o _ _ hc e _ => ⟨o.slots, e⟩)
    (fun b o hc e n => ?_) (fun b o hc e => ⟨o, e⟩) (fun b xs e => ?_) (fun b o u e => ?_) (fun b ps e => ⟨#[], ?_⟩) (fun m hm => hm) (fun b u e => ?_) I.bare
  · obtain rfl : b = S := by simpa using hb
    exact ⟨f.2.2.2.1, f.2.1, f.2.2.2.2.1, f.2.2.2.2.2⟩
  · rw [upd_ne (fun z => hc (by simp [z]))]; exact n
  · rw [upd_ne (ne_of_none e hn)]; exact e
  · rw [upd_ne (ne_of_none e hn)]; exact e
  · rw [upd_ne (ne_of_none e hn), e]; simp
  · by_cases hb : b = S
    · subst hb
      rw [upd_same] at e
      cases e
      exact ⟨hz, acc.toList, c, rv, by rw [Array.toArray_toList]; exact hS⟩
    · rw [upd_ne hb] at e
      exact (I.hok b u e).stay (fun c v hc q => q) (fun c q => by rw [upd_ne (ne_of_none q hn)]; exact q) fun c xs q => by rw [upd_ne (ne_of_none q hn)]; exact q
theorem list_zip (D : ZipApart z TI TO i1 i2 a b) (hl : xs.length = ys.length) (hz : xs.length ≤ 1000) (hc : X.calm = true) {s : Shared} {E : Value → Shared → Prop} (I : Inv X pins σ H0 s) (qa : SqT X.K H0 a xs) (qb : SqT X.K H0 b ys)
    (hzz : IsZip s.heap z TI TO .none) (hTI : IsPair s.heap TI (.ref i1) (.ref i2)) (hTO : ∃ x y, IsPair s.heap TO x y) (h1 : s.heap.IsTupleIter i1 a 0) (h2 : s.heap.IsTupleIter i2 b 0) (hf : ∀ c ∈ [z, TI, TO, i1, i2], FpOk X pins H0 c) {Q : VK}
    (h : ∀ (L : List (Addr × V × V)) (S : Addr), frT H0 L → L.map (·.2) = xs.zip ys → mkT H0 L S = none → Q (.ref S) (upd (mkT H0 L) S (.lst (L.map fun t => .ref t.1)))) :
    wpAny (model X.prog X.w) X.A (call (.type "list") [.ref z]) (EP X pins σ Q) E s := by
  have hh : X.A.handled = none := I.ok.hd hc
  refine callType_codes (Q₁ := fun obj s₁ => obj = .ref s.heap.objs.size ∧ s₁ = { s with heap := s.heap.push { cls := .type "list", data := .seq #[] } }) PySem.F.called_list (PySem.F.typeCall_list_1 _) PySem.F.entry_list_init
    (code_list_new _ ⟨rfl, rfl⟩) fun obj s₁ h₁ => ?_
  obtain ⟨rfl, rfl⟩ := h₁
  have hS : (s.heap.push { cls := .type "list", data := .seq #[] }).get? s.heap.objs.size = some { cls := .type "list", data := .seq #[] } := Heap.get?_push_size _ rfl
  refine ⟨⟨_, hS, rfl⟩, PySem.F.args_list_init_2 _ _, ?_⟩
  generalize hSn : s.heap.objs.size = S at *
  have nS : S ∉ [z, TI, TO, i1, i2] := fun hm => by
    have e' : S = z ∨ S = TI ∨ S = TO ∨ S = i1 ∨ S = i2 := by simpa using hm
    have lt : S < s.heap.objs.size := by
      rcases e' with q | q | q | q | q
      · rw [q]; exact Heap.lt_size hzz
      · rw [q]; exact Heap.lt_size hTI
      · rw [q]; obtain ⟨_, _, e⟩ := hTO; exact Heap.lt_size e
      · rw [q]; obtain ⟨_, e, _⟩ := h1; exact Heap.lt_size e
      · rw [q]; obtain ⟨_, e, _⟩ := h2; exact Heap.lt_size e
    rw [hSn] at lt
    exact Nat.lt_irrefl _ lt
  have fS : FpOk X pins H0 S := by rw [← hSn]; exact I.fpOk (Nat.le_refl _) (I.hok.fresh (Nat.le_refl _))
  have kp : ∀ b o, s.heap.get? b = some o → (s.heap.push { cls := .type "list", data := .seq #[] }).get? b = some o := fun b o e => Heap.get?_push_of_some _ e
  have I1 : Inv X pins σ H0 { s with heap := s.heap.push { cls := .type "list", data := .seq #[] } } := I.kept (t' := s.toks) kp
  have st : ZSt S z TI TO i1 i2 a b 0 (s.heap.push { cls := .type "list", data := .seq #[] }) := ⟨kp _ _ hTI, (by obtain ⟨x, y, e⟩ := hTO; exact ⟨x, y, kp _ _ e⟩), h1.at fun o e => kp _ o e, h2.at fun o e => kp _ o e, .inl (kp _ _ hzz)⟩
  have hT : ∀ s' : Shared, IsZip s'.heap z TI TO .none → s'.TypeIs (.ref z) "zip" := fun s' e => ⟨_, e, rfl⟩
  show wpAny _ X.A.in1.in1 (do let old ← Builtin.List.listItems (.ref S); Builtin.List.listUpdate (.ref S) (fun _ => #[]); letGo old.toList.reverse; Builtin.List.listExtendWith (.ref S) (.ref z) .none) _ _ _
  refine wpAny_bind ?_
  unfold Builtin.List.listItems
  refine wpAny_bind (wpAny_seqItems hS rfl (wpAny_pure ?_))
  show wpAny _ X.A.in1.in1 (updateSeq S (fun _ => #[]) >>= fun _ => letGo (#[] : Array Value).toList.reverse >>= fun _ => Builtin.List.listExtendWith (.ref S) (.ref z) .none) _ _ _
  refine wpAny_bind (wpAny_updateSeq hS rfl ?_)
  have hS₂ := Heap.get?_update_self (Obj.mapSeq (fun _ => (#[] : Array Value))) hS rfl
  have oth2 : ∀ b o, b ≠ S → (s.heap.push { cls := .type "list", data := .seq #[] }).get? b = some o → ((s.heap.push { cls := .type "list", data := .seq #[] }).update S (Obj.mapSeq (fun _ => (#[] : Array Value)))).get? b = some o :=
    fun b o hb e => (Heap.get?_update_other _ _ (Ne.symm hb)).trans e
  refine wpAny_bind (wpAny_letGo ?_)
  have st2 := st.put oth2 nS
  have I2 := I1.turnedL (h' := (s.heap.push { cls := .type "list", data := .seq #[] }).update S (Obj.mapSeq (fun _ => (#[] : Array Value)))) (t' := s.toks) (ch := [S]) (fun c o hc e => oth2 c o (fun z => hc (by simp [z])) e) fun c hc => by
    obtain rfl : c = S := by simpa using hc
    exact fS
  have hzz2 := oth2 _ _ (fun e => nS (by simp [← e])) (kp _ _ hzz)
  generalize (s.heap.push { cls := .type "list", data := .seq #[] }).update S (Obj.mapSeq (fun _ => (#[] : Array Value))) = hp2 at *
  unfold Builtin.List.listExtendWith
  refine wpAny_bind (wpAny_typeOf (hT _ hzz2) ?_)
  have q1 : Builtin.List.listSameRef (.ref S) (.ref z) = false := by
    have : S ≠ z := fun e => nS (by simp [e])
    simp [Builtin.List.listSameRef, this]
  have q2 : (Value.type "zip" == Value.type "list") = false := by decide
  have q3 : (Value.type "zip" == Value.type "tuple") = false := by decide
  simp only [q1, q2, q3, Bool.or_false, Bool.false_eq_true, if_false]
  refine wpAny_bind (wpAny_pyIter_zip hzz2 ?_)
  refine wpAny_bind (wpAny_holding ?_)
  unfold Builtin.List.listLengthHint
  refine wpAny_bind (wpAny_specialOf (hT _ hzz2) zip_no_len ?_)
  show wpAny _ X.A.in1.in1 (specialOf (Value.ref z) (Str.ofString "__length_hint__") >>= _) _ _ _
  refine wpAny_bind (wpAny_specialOf (hT _ hzz2) zip_no_hint ?_)
  refine wpAny_pure ?_
  show wpAny _ X.A.in1.in1 (rule "list.extend.makes-room" >>= fun _ => Builtin.List.listTouch (.ref S) >>= fun _ =>
    again (.builtin "list.extend.loop" ⟨[.ref S, .ref z, .none], []⟩)) _ _ _
  refine wpAny_bind (wpAny_rule ?_)
  refine wpAny_bind ?_
  show wpAny _ X.A.in1.in1 (updateSeq S (·.push .none) >>= fun _ => updateSeq S (·.pop)) _ _ _
  refine wpAny_bind (wpAny_updateSeq hS₂ rfl ?_)
  have hS₃ := Heap.get?_update_self (Obj.mapSeq (·.push Value.none)) hS₂ rfl
  refine wpAny_updateSeq (hz := by seq_fits) hS₃ rfl ?_
  have hS₄ := Heap.get?_update_self (Obj.mapSeq (·.pop)) hS₃ rfl
  have oth3 : ∀ b o, b ≠ S → hp2.get? b = some o → ((hp2.update S (Obj.mapSeq (·.push Value.none))).update S (Obj.mapSeq (·.pop))).get? b = some o :=
    fun b o hb e => (Heap.get?_update_other _ _ (Ne.symm hb)).trans ((Heap.get?_update_other _ _ (Ne.symm hb)).trans e)
  have I3 := I2.turnedL (h' := (hp2.update S (Obj.mapSeq (·.push Value.none))).update S (Obj.mapSeq (·.pop))) (t' := s.toks) (ch := [S]) (fun c o hc e => oth3 c o (fun z => hc (by simp [z])) e) fun c hc => by
    obtain rfl : c = S := by simpa using hc
    exact fS
  refine wpAny_pure ⟨plainId_quiet PySem.F.plain_extend_loop _, zip_loop (A := X.A.in1) (H0 := H0) D hl hz hh nS (fun s' L acc c fr I' fS' e1 e2 hS' => ?_) xs.length 0 _ [] #[] _ rfl (Nat.zero_le _) True.intro I3 qa qb hf fS hS₄ (st2.put oth3 nS) (by simp) rfl⟩
  refine ⟨rfl, .ref S, _, adopt (vs := L.map fun t => V.ref t.1) I' fS' hS' ?_ ?_, rfl, h L S fr e1 fS'.1⟩
  · rw [e2]
    clear e2 e1 fr I' fS'
    induction L with
    | nil => exact .nil
    | cons t r ih => exact .cons rfl ih
  · have := congrArg List.length e1
    simp at this
    rw [List.length_map, sizeLine_eq]
    omega
end
def tListZip (K : PySem.W.Frag) (tA : TA) : TE := fun σ H Q => tA σ H fun vs H1 => ∃ a b xs ys, vs = [.ref a, .ref b] ∧ SqT K H1 a xs ∧ SqT K H1 b ys ∧ xs.length = ys.length ∧ xs.length ≤ 1000 ∧
  ∀ (L : List (Addr × V × V)) (S : Addr), frT H1 L → L.map (·.2) = xs.zip ys → mkT H1 L S = none → Q (.ref S) (upd (mkT H1 L) S (.lst (L.map fun t => .ref t.1)))
theorem pe_listZip {X : Cx} {e e2 : Expr} {tA : TA} {p p2 pos pos2 : Pos} (hc : X.calm = true) (hg : Gl X "list") (hm : X.mg "list" = none) (hg2 : Gl X "zip") (hm2 : X.mg "zip" = none) (ha : PA X [e, e2] tA)
    (hse : starEach [Expr.Call (.Name "zip" p2) [e, e2] [] pos2] X.env = [(false, eval (Expr.Call (.Name "zip" p2) [e, e2] [] pos2) X.env)] := by rfl)
    (hs : starEach [e, e2] X.env = (false, eval e X.env) :: starEach [e2] X.env := by rfl) (hpl : (backTo pos2 (starEach [e2] X.env)).any (·.1) = false := by rfl) :
    PE X (.Call (.Name "list" p) [.Call (.Name "zip" p2) [e, e2] [] pos2] [] pos) (tListZip X.K tA) := by
  refine ⟨fun pins s σ H Q I h => ?_⟩
  refine wpAny_Call_Name_kw (ld_blt I hg hm (u := .type "list") (by first | rfl | decide +kernel) ?_ (by first | decide +kernel | decide) (by first | decide +kernel | decide))
  rw [hse]
  refine PySem.callWith_type1 (Call_ (ld_blt I hg2 hm2 PyProof.Rows.boot_zip (PyProof.Rows.callWith_type1 (thn (ha.run pos2 pins s σ H _ I h) fun us s1 ⟨vs, H1, I1, r1, q1⟩ => ?_) hs hpl)))
  obtain ⟨a, b, xs, ys, ex, qa, qb, hl, hz, q⟩ := q1
  subst ex
  cases r1 with
  | cons r rr =>
    cases rr with
    | cons r' rr =>
      cases rr
      cases r
      cases r'
      have fresh5 : ∀ c, c ∈ [s1.heap.objs.size + 4, s1.heap.objs.size + 2, s1.heap.objs.size + 3, s1.heap.objs.size, s1.heap.objs.size + 1] → FpOk X pins H1 c := fun c hcm => by
        have e' : c = s1.heap.objs.size + 4 ∨ c = s1.heap.objs.size + 2 ∨ c = s1.heap.objs.size + 3 ∨ c = s1.heap.objs.size ∨ c = s1.heap.objs.size + 1 := by simpa using hcm
        have hle : s1.heap.objs.size ≤ c := by
          rcases e' with z | z | z | z | z
          · rw [z]; exact Nat.le_add_right _ _
          · rw [z]; exact Nat.le_add_right _ _
          · rw [z]; exact Nat.le_add_right _ _
          · rw [z]; exact Nat.le_refl _
          · rw [z]; exact Nat.le_add_right _ _
        exact I1.fpOk hle (I1.hok.fresh hle)
      obtain ⟨its, rv, p1, _⟩ := I1.tuple qa
      obtain ⟨its2, rv2, p2, _⟩ := I1.tuple qb
      obtain ⟨o1, ho1, _⟩ := id p1
      obtain ⟨o2, ho2, _⟩ := id p2
      refine call_zipT (show s1.heap.IsTuple a its.toArray from p1) (show s1.heap.IsTuple b its2.toArray from p2) fun h' hz' hTI hTO h1 h2 hsz hk => ?_
      have I2 : Inv X pins σ H1 { s1 with heap := h' } := I1.kept (t' := s1.toks) hk
      exact list_zip (PySem.W.ktu_apart s1.heap.objs.size a b (Heap.lt_size ho1) (Heap.lt_size ho2)) hl hz hc I2 qa qb hz' hTI ⟨_, _, hTO⟩ h1 h2 fresh5 q
section
variable {K : PySem.W.Frag} {env : List Sl} {P : Sl → Prop} {tA : TA}
theorem mk_world {w : Wd} : ∀ {L : List (Addr × V × V)} {w1 : Wd}, frT w1.H L → ∃ w2 : Wd, w2.H = mkT w1.H L ∧ w1.le w2 ∧ ∀ t ∈ L, w2.B t.1 = some (.tup [t.2.1, t.2.2])
  | [], w1, _ => ⟨w1, rfl, w1.rfl', fun t h => (by cases h)⟩
  | t :: r, w1, f => by
    have e1 := Wd.le_new (o := .tup [t.2.1, t.2.2]) f.1
    obtain ⟨w2, a, b, c⟩ := mk_world (w := w) (L := r) (w1 := w1.new t.1 (.tup [t.2.1, t.2.2]) f.1) f.2
    refine ⟨w2, a, e1.trans b, fun x hx => ?_⟩
    rcases List.mem_cons.mp hx with rfl | h
    · exact b.b _ _ upd_same
    · exact c x h
theorem zip_dra {B : Hp} : ∀ {L : List (Addr × V × V)} {ds es : List D} {xs ys : List V}, DrA K B ds xs → DrA K B es ys → ds.length = es.length → L.map (·.2) = xs.zip ys → (∀ t ∈ L, B t.1 = some (.tup [t.2.1, t.2.2])) → DrA K B ((ds.zip es).map fun p => .tup [p.1, p.2]) (L.map fun t => V.ref t.1)
  | [], ds, es, xs, ys, ra, rb, hl, e, _ => by
    have : ds.zip es = [] := by
      have := congrArg List.length e
      simp at this
      have l1 := ra.len
      have l2 := rb.len
      exact List.eq_nil_of_length_eq_zero (by rw [List.length_zip]; omega)
    rw [this]; exact .nil
  | t :: r, _, _, _, _, ra, rb, hl, e, c => by
    cases ra with
    | nil => simp at e
    | cons x1 y1 =>
      cases rb with
      | nil => simp at e
      | cons x2 y2 =>
        simp only [List.map_cons, List.zip_cons_cons, List.cons.injEq] at e
        refine .cons (.tup (.inl (.inl (c t (by simp)))) (.cons ?_ (.cons ?_ .nil))) (zip_dra y1 y2 (by simpa using hl) e.2 fun t h => c t (by simp [h]))
        · rw [e.1]; exact x1
        · rw [e.1]; exact x2
theorem ev_listZip {ds es : List D} (h : EvA K tA env fun ss => ss = [.val (.tup ds), .val (.tup es)] ∧ ds.length = es.length ∧ ds.length ≤ 1000 ∧ P (.own (oL ((ds.zip es).map fun p => .tup [p.1, p.2])))) : EvE K (tListZip K tA) env P := fun en w σ R Q q =>
  h en w σ R _ fun ss vs w1 e1 h1 r1 => by
    obtain ⟨rfl, hl, hz, p⟩ := h1
    cases r1 with
    | cons ra rr =>
      cases rr with
      | cons rb rr =>
        cases rr
        cases ra with
        | tup qa ra =>
          cases rb with
          | tup qb rb =>
            rename_i a xs b ys
            have l1 := ra.len
            have l2 := rb.len
            refine ⟨a, b, xs, ys, rfl, sameT w1.sub qa, sameT w1.sub qb, by omega, by omega, fun L S fr e hS => ?_⟩
            obtain ⟨w2, a2, b2, c2⟩ := mk_world (w := w1) fr
            have hS2 : w2.H S = none := by rw [a2]; exact hS
            have key := zip_dra (ra.mono b2.b) (rb.mono b2.b) hl e c2
            rw [← a2]
            exact q _ _ (w2.lay S (.lst (L.map fun t => .ref t.1)) hS2) ((e1.trans b2).trans (Wd.le_lay hS2)) p (own_new (e1.trans b2) hS2 key)
end
end DL

set_option Elab.async false
set_option linter.all false
set_option maxRecDepth 100000
set_option autoImplicit false
namespace DL
open PySem L2 PySem.Spec PyProof.Rows
/-! ### dict(d) -/
def rDictOf : List V → Hp → VK → Prop := fun xs H Q => ∃ (a : Addr) (kvs : List (Key × V)), xs = [.ref a] ∧ Rd H a (.dK kvs) ∧ ∀ l, H l = none → Q (.ref l) (upd H l (.dK kvs))
theorem b_dictOf {X : Cx} : CallR X (.type "dict") rDictOf := by
  intro pins s σ H xs us Q I r h
  obtain ⟨a, kvs, rfl, e, q⟩ := h
  cases r with
  | cons r rr =>
    cases rr
    cases r
    exact d_copyOf I e fun p s' hp I' => ⟨.ref p, _, I', rfl, q p hp⟩
section
variable {K : PySem.W.Frag} {env : List Sl} {P : Sl → Prop} {w w' : Wd}
theorem ra_dictOf {s : Sl} {xs : List (Key × OT)} {ds : List D} (l : TdS s xs) (e : xs.map (·.2) = ds.map OT.imm) (p : P (.own (.dK xs))) : RaP K rDictOf [s] P := fun w wx vs e1 r Q q => by
  cases r with
  | cons r t =>
    cases t
    obtain ⟨a, ws, fp, rfl, h1, h2, h3⟩ := l.tr r
    rw [e] at h3
    obtain ⟨rfl, rd⟩ := h3.imms_inv
    refine ⟨a, ws, rfl, h1, fun lo hlo => q _ _ (wx.lay lo _ hlo) (Wd.le_lay hlo) p ?_⟩
    refine ⟨[lo], .dK upd_same h2 (by rw [e]; exact TRs.imms rd), by simp, fun q z => ?_⟩
    have e2 : q = lo := by simpa using z
    subst e2
    exact ⟨e1.h.free hlo, (show wx.B q = none from Wd.freeB hlo)⟩
end
end DL
/-! ### a dict is no tuple -/
namespace PySem.SeqAt
open AutoSeq1 (wpAny_loadPart')
open MeetsSeq
theorem tuple_eq_declines_dict (l b : Addr) (items : Array Value) (n : Nat) (o2 : Obj) (hc : o2.cls = .type "dict") (dd : Option Addr) (sl : Array (Option Value)) :
    Meets (Builtin.«tuple.__eq__» ⟨[.ref l, .ref b], []⟩) (fun _ R s => s.heap.get? l = some { cls := .type "tuple", dict := dd, data := .seq items n, slots := sl } ∧ s.heap.get? b = some o2 ∧ R (.ok (.ret .notImplemented)) s) :=
  .of_wp fun prog w A R s h => by
    obtain ⟨hp, g, d, tk, os⟩ := s; obtain ⟨hl, hb, h⟩ := h
    obtain ⟨c2, d2, dt2, sl2⟩ := o2
    simp only at hc
    subst hc
    have f1 := F.sub_dict_tuple
    wp_walk using wpAny_loadPart' hl, wpAny_loadPart' hb
    exact ⟨_, rfl, h⟩
section
variable {prog : Program} {w : World} {K : Type} [DecidableEq K] {knd : KeyKind prog w K} {A : Around} {E : Value → Shared → Prop} {s : Shared}
theorem dict_eq_tuple {a b : Addr} {ka : List (K × Value)} {items : Array Value} (da : s.heap.DictOf knd a ka) (hb : s.heap.IsTuple b items) (hu : A.units < cLine) {Q : Value → Shared → Prop} (h : Q (.bool false) s) : wpAny (model prog w) A (richCompare .Eq (.ref a) (.ref b)) Q E s := by
  obtain ⟨⟨cls2, dd2, data2, sl2⟩, ho2, hc2, n2, hd2⟩ := id hb
  simp only at hc2 hd2
  subst hc2 hd2
  have hT := da.typeIs
  obtain ⟨oa, hoa, hca⟩ := id hT
  have hne : a ≠ b := fun e => by
    subst e
    rw [hoa] at ho2
    cases ho2
    exact (show Value.type "tuple" ≠ Value.type "dict" by decide) hca
  exact rc_eq_decline_or (k := false) hT ⟨_, ho2, rfl⟩ (by decide) F.sub_tuple_dict F.slot_dict_eq F.slot_tuple_eq_refl
    (fun Q' hq => by
      refine wpAny_call_entry F.slot_dict_eq hT F.entry_dict_eq ?_ (F.args_dict_eq_2 _ _)
      show wpAny _ _ (Builtin.Dict.dictSlotArgs "__eq__" ⟨[.ref a, .ref b], []⟩ >>= _) _ _ s
      refine wpAny_bind ?_
      unfold Builtin.Dict.dictSlotArgs
      refine wpAny_bind (PySem.wpAny_notOrdered_dict hT ?_)
      show wpAny _ _ (pure (Value.ref a, Value.ref b)) _ _ s
      refine wpAny_pure ?_
      refine wpAny_bind (wpAny_isInstance (T := "tuple") (U := "dict") (b := false) ⟨_, ho2, rfl⟩ F.sub_tuple_dict ?_)
      simp only [Bool.not_false, if_true]
      exact wpAny_bind (wpAny_rule (wpAny_pure ⟨_, rfl, hq⟩)))
    (fun _ hq => call_meets F.slot_tuple_eq_refl ⟨_, ho2, rfl⟩ F.entry_tuple_eq (F.args_tuple_eq_2 _ _) (tuple_eq_declines_dict b a items n2 oa hca dd2 sl2) ⟨ho2, hoa, hq⟩)
    (fun _ hq => wpAny_isSame_ref_other hne hoa ho2 (by rw [hca]; decide) hq) (.inr hu) h
end
end PySem.SeqAt
namespace DL
open PySem L2 PySem.Spec PyProof.Rows
/-- two dicts that are data: their values equal data -/
def rNeDX (K : PySem.W.Frag) : R2 := fun x y H Q => ∃ (a b : Addr) (ks ls : List (Key × V)), x = .ref a ∧ y = .ref b ∧ Rd H a (.dK ks) ∧ Rd H b (.dK ls) ∧ ks.map (·.1) = ls.map (·.1) ∧ (ls.map (·.1)).Nodup ∧
  (∀ (i : Nat) (p q : Key × V), ks[i]? = some p → ls[i]? = some q → ∃ d, Dp K H p.2 d ∧ Dp K H q.2 d ∧ SeqAt.shaped d = true ∧ PyData.eqv d d = true) ∧ Q (.bl false) H
/-- a dict and a tuple -/
def rEqDX (K : PySem.W.Frag) : R2 := fun x y H Q => ∃ (a b : Addr) (ks : List (Key × V)) (ys : List V), x = .ref a ∧ y = .ref b ∧ Rd H a (.dK ks) ∧ SqT K H b ys ∧ Q (.bl false) H
theorem op_eqDX {X : Cx} (hu : X.A.units + 64 < cLine) : OpR X (compareOp .Eq) (rEqDX X.K) := by
  intro pins s σ H x y v u Q I rx ry h
  obtain ⟨a, b, ks, ys, rfl, rfl, ea, eb, q⟩ := h
  obtain rfl : v = Value.ref a := rx
  obtain rfl : u = Value.ref b := ry
  obtain ⟨_, _, va, _, da⟩ := dk_rd I.hok ea
  obtain ⟨its, _, ⟨o, ho, hc, n, hd⟩, _⟩ := I.tuple eb
  exact SeqAt.dict_eq_tuple (knd := mixKind X.prog X.w) da ⟨o, ho, hc, n, hd⟩ (by omega) ⟨.bl false, H, I, rfl, q⟩
theorem valAt_ix {vs : List (Key × Value)} (nd : (vs.map (·.1)).Nodup) {i : Nat} {k : Key} {v : Value} (e : vs[i]? = some (k, v)) : valueAt vs k = some v := by
  induction vs generalizing i with
  | nil => cases e
  | cons p r ih =>
    obtain ⟨m, t⟩ := p
    have nd' := List.nodup_cons.mp nd
    cases i with
    | zero =>
      simp at e
      obtain ⟨rfl, rfl⟩ := e
      simp [valueAt]
    | succ i =>
      have e : r[i]? = some (k, v) := by simpa using e
      have hne : k ≠ m := fun z => nd'.1 (by rw [← z]; exact List.mem_map.mpr ⟨_, List.mem_of_getElem? e, rfl⟩)
      have := ih nd'.2 e
      simp only [valueAt] at this ⊢
      first
        | (rw [List.find?_cons_of_neg (by simpa using Ne.symm hne)]; exact this)
        | simpa [Ne.symm hne] using this
theorem kv_keys {ls : List (Key × V)} {vb : List (Key × Value)} (rb : KV ls vb) : vb.map (·.1) = ls.map (·.1) := by
  unfold KV at rb
  induction rb with
  | nil => rfl
  | cons h _ ih => rw [List.map_cons, List.map_cons, ih, h.1]
theorem op_neDX {X : Cx} (hu : X.A.units + 65 < cLine) : OpR X (compareOp .NotEq) (rNeDX X.K) := by
  intro pins s σ H x y v u Q I rx ry h
  obtain ⟨a, b, ks, ls, rfl, rfl, ea, eb, ek, nd, hp, q⟩ := h
  obtain rfl : v = Value.ref a := rx
  obtain rfl : u = Value.ref b := ry
  obtain ⟨_, ya, va, ra, da⟩ := dk_rd I.hok ea
  obtain ⟨_, yb, vb, rb, db⟩ := dk_rd I.hok eb
  have keysb : vb.map (·.1) = ls.map (·.1) := kv_keys rb
  have la := ra.length
  have lb := rb.length
  have lk : ks.length = ls.length := by simpa using congrArg List.length ek
  refine PySem.W.keq_ne (knd := mixKind X.prog X.w) (r := true) ya yb da db (by omega) (fun _ => ?_) (?_)
  · have ndb : (vb.map (·.1)).Nodup := by rw [keysb]; exact nd
    have hit : ∀ (i : Nat), i ≤ va.length → PySem.W.KeqHits X.A.in1 s vb (va.drop i) true := by
      intro i hi
      generalize hn : va.length - i = n
      induction n generalizing i with
      | zero =>
        rw [List.drop_of_length_le (by omega)]
        exact .nil
      | succ n ih =>
        have hlt : i < va.length := by omega
        rw [List.drop_eq_getElem_cons hlt]
        have hka : i < ks.length := by omega
        have hkb : i < ls.length := by omega
        have hvb : i < vb.length := by omega
        obtain ⟨d, d1, d2, sd, ee⟩ := hp i _ _ (List.getElem?_eq_getElem hka) (List.getElem?_eq_getElem hkb)
        obtain ⟨w1, e1, r1⟩ := KV.at' ra (k := va[i].1) (v := va[i].2) (List.getElem?_eq_getElem hlt)
        obtain ⟨w2, e2, r2⟩ := KV.at' rb (k := vb[i].1) (v := vb[i].2) (List.getElem?_eq_getElem hvb)
        rw [List.getElem?_eq_getElem hka] at e1
        rw [List.getElem?_eq_getElem hkb] at e2
        have e1 : ks[i] = (va[i].1, w1) := by simpa using e1
        have e2 : ls[i] = (vb[i].1, w2) := by simpa using e2
        have ek2 : va[i].1 = vb[i].1 := by
          have a1 : (ks.map (·.1))[i]'(by simpa using hka) = ks[i].1 := by simp
          have a2 : (ls.map (·.1))[i]'(by simpa using hkb) = ls[i].1 := by simp
          have : ks[i].1 = ls[i].1 := by rw [← a1, ← a2]; simp only [ek]
          rw [e1, e2] at this
          exact this
        rw [e1] at d1
        rw [e2] at d2
        obtain ⟨as1, q1⟩ := Dp.reads I d w1 _ d1 r1
        obtain ⟨as2, q2⟩ := Dp.reads I d w2 _ d2 r2
        have E1 := SeqAt.eqAt_reads d d X.A.in1 s _ _ _ _ q1 q2 (SeqAt.canLay_of_shaped sd) (SeqAt.canLay_of_shaped sd) (SeqAt.room_of_shaped sd (by show X.A.units + 1 + 64 < cLine; omega))
        rw [ee] at E1
        have v2 : valueAt vb va[i].1 = some vb[i].2 := valAt_ix ndb (i := i) (by rw [ek2]; exact List.getElem?_eq_getElem hvb)
        exact .hit v2 E1 (ih (i + 1) (by omega) (by omega))
    exact hit 0 (Nat.zero_le _)
  · have : va.length = vb.length := by omega
    rw [this]
    simp
    exact ⟨.bl false, H, I, rfl, q⟩
end DL

set_option Elab.async false
set_option linter.all false
set_option maxRecDepth 100000
set_option autoImplicit false
namespace DL
open PySem L2
section
variable {K : PySem.W.Frag} {env : List Sl} {Pp : Post} {w w' : Wd} {te ta tb tr : TE} {tt : TT} {tA : TA} {en : En} {Pf : D → List Sl → Prop} {Pa : List D → List Sl → Prop} {t u : TS} {P : Sl → Prop}
/-! ### comparing dicts that are data -/
def rEqY (K : PySem.W.Frag) : R2 := rOr (rEqG K) (rEqDX K)
def rNeY (K : PySem.W.Frag) : R2 := rOr (rNeG K) (rNeDX K)
theorem g_eqY {X : Cx} (hu : X.A.units + 65 < cLine) (hK : X.K = K := by rfl) : OpR X (compareOp .Eq) (rEqY K) := hK ▸ (g_eq (by omega)).or (op_eqDX (by omega))
theorem g_neY {X : Cx} (hu : X.A.units + 65 < cLine) (hK : X.K = K := by rfl) : OpR X (compareOp .NotEq) (rNeY K) := hK ▸ (g_ne (by omega)).or (op_neDX hu)
theorem d_eqDT {xs : List (Key × D)} {ds : List D} (p : P (.val (.bl false))) : RvP K (rEqY K) (.val (.dK xs)) (.val (.tup ds)) P := fun w wx x y e r1 r2 Q q => by
  cases r1 with
  | dK h1 h2 h3 =>
    cases r2 with
    | tup q1 q2 => exact .inr ⟨_, _, _, _, rfl, rfl, .inr ⟨_, wx.sub _ _ h1⟩, sameT wx.sub q1, q _ _ wx wx.rfl' p (.bl _)⟩
theorem eqv_self {n : Nat} {d : D} (h : Pl n d) : PyData.eqv (toPy d) (toPy d) = true := (eqD_iff h h).mpr rfl
theorem d_neDD {n : Nat} {xs : List (Key × D)} (hn : n ≤ 64) (nd : (xs.map (·.1)).Nodup) (hp : ∀ p ∈ xs, Pl n p.2) (p : P (.val (.bl false))) : RvP K (rNeY K) (.val (.dK xs)) (.val (.dK xs)) P := fun w wx x y e r1 r2 Q q => by
  cases r1 with
  | @dK a1 o1 _ vs1 h1 h2 h3 =>
    cases r2 with
    | @dK a2 o2 _ vs2 q1 q2 q3 =>
      refine .inr ⟨a1, a2, vs1, vs2, rfl, rfl, .inr ⟨_, wx.sub _ _ h1⟩, .inr ⟨_, wx.sub _ _ q1⟩, by rw [h2, q2], by rw [q2]; exact nd, fun i p1 p2 e1 e2 => ?_, q _ _ wx wx.rfl' p (.bl _)⟩
      obtain ⟨d, hd, rd⟩ := h3.get' (i := i) (v := p1.2) (by rw [List.getElem?_map, e1]; rfl)
      obtain ⟨d2, hd2, rd2⟩ := q3.get' (i := i) (v := p2.2) (by rw [List.getElem?_map, e2]; rfl)
      rw [hd] at hd2; cases hd2
      rw [List.getElem?_map] at hd
      obtain ⟨pp, hpp, rfl⟩ := Option.map_eq_some_iff.mp hd
      have pl := hp pp (List.mem_of_getElem? hpp)
      exact ⟨toPy pp.2, pl.dp wx.sub rd, pl.dp wx.sub rd2, pl.shaped hn, eqv_self pl⟩
/-! ### more effects within expressions -/
theorem ef_tup (h : EvFA K tA env fun ds env' => ds.length ≤ 1000 ∧ Pf (.tup ds) env') : EvF K (tTup tA) env Pf := fun en w σ R Q q =>
  h en w σ R _ fun ds vs w1 env1 s1 r1 R1 p1 => by
    refine ⟨by rw [← r1.len]; exact Nat.le_of_lt (small1000 p1.1), fun pp hp => ?_⟩
    exact q _ _ (w1.new pp (.tup vs) hp) env1 (s1.trans (Wd.le_new hp).b) (Dr.tup (.inl (.inl upd_same)) (r1.mono (Wd.le_new hp).b)) (R1.grow (Wd.le_new hp)) p1.2
/-- xs.append(e), where e changes other trees -/
theorem wpf_app {i : Nat} {ds : List D} (e : env[i]? = some (.own (oL ds))) (h : EvF K te env fun d env' => ∃ es, env'[i]? = some (.own (oL es)) ∧ es.length < 1000000 ∧ Pp.nx (env'.set i (.own (oL (es ++ [d]))))) :
    Wp K (tDrop (tBM K "list" rAppend (tVar i) (tCons te tNil))) env Pp := fun en w σ R D hn _ _ _ => by
  obtain ⟨o, fp, h1, v, rfl, own⟩ := R.at e
  obtain ⟨pp, xs, rfl, _, hp, _⟩ := own.1.oL_inv
  refine ⟨.ref pp, h1, .inl ⟨rfl, _, .inl (.inl hp)⟩, ?_⟩
  refine h en w σ R _ fun d y w2 env' sb ry R2 p => ?_
  obtain ⟨es, e', hl, p⟩ := p
  obtain ⟨o2, fp2, h2, v2, rfl, own2⟩ := R2.at e'
  rw [h1] at h2
  cases h2
  obtain ⟨pp2, ys, e3, _, hp2, rs2⟩ := own2.1.oL_inv
  cases e3
  refine ⟨pp, ys, y, rfl, rfl, hp2, Nat.lt_of_lt_of_le (by rw [← rs2.len]; exact hl) (by decide), ?_⟩
  obtain ⟨w3, h3, b3, R3⟩ := R2.write (s := oL es) (s' := oL (es ++ [d])) (o := .lst ys) (o' := .lst (ys ++ [y])) (f := id) (.inl e') h1 .here (fun fs ts nd no => by
    obtain ⟨pp3, zs, e4, e5, hp3, rs3⟩ := ts.oL_inv
    cases e4
    subst e5
    rw [hp2] at hp3
    cases hp3
    exact ⟨by simp, fun H' q1 q2 => ⟨[pp], TR.ofL q1 (rs2.snoc ry), by simp, fun q z => ⟨(no q z).1, (no q z).2, .inl z⟩⟩⟩)
  rw [← h3]
  refine hn w3 σ _ (sb.trans b3) R3 ?_
  show Pp.nx (putS env' i (oL (es ++ [d])))
  rw [putS_own e']
  exact p
theorem wpf_asgG {g : TG} (h : EvF K te env fun d env' => ∃ us, GD K g d us ∧ Pp.nx (sets us env')) : Wp K (tAsg te g) env Pp := fun en w σ R D hn _ _ _ =>
  h en w σ R _ fun d v w1 env' sb r1 R1 p => by
    obtain ⟨us, G, p⟩ := p
    exact G.run r1 fun vs gv => hn w1 _ _ sb (R1.sets gv) p
theorem emx_methE {i : Nat} {C : Addr} {m : Str} {S : SpX} {W : WX} {Z : XP} {Pm : Sl → List Sl → Prop}
    (h : ∃ xs, (env[i]? = some (.own (.ins C xs)) ∨ env[i]? = some (.io (.ins C xs))) ∧ xs.lookup m = none ∧ EvA K tA env fun ss => ∃ ds : List D, ss = ds.map .val ∧ S (.io (.ins C xs) :: ds.map .val) (fun s as' => ∃ t', as'[0]? = some (.io t') ∧ Pm s (putS env i t')) fun C' d as' => ∃ t', as'[0]? = some (.io t') ∧ Z C' d (putS env i t')) :
    EvMX K W (tMethS C m (spX K S) (WE W) (tVar i) tA) env Pm Z := let ⟨_, a, b, c⟩ := h; emx_meth a b c
/-- for over what is found with effects -/
theorem wpf_for {wi : TI} {g : TG} {tb : TS} (h : EvIF K wi env fun ys env' => ∃ Inv : Nat → List Sl → Prop, Inv 0 env' ∧ (∀ i d env2, ys[i]? = some d → Inv i env2 → ∃ us, GD K g d us ∧ Wp K tb (sets us env2) (Post.loop Pp (Inv (i + 1)))) ∧ ∀ env2, Inv ys.length env2 → Pp.nx env2) :
    Wp K (tFor wi g tb) env Pp := fun en w σ R D hn hb hc hr =>
  h en w σ R _ fun J ds w1 env1 s1 R1 p1 it => by
    obtain ⟨Inv, h0, hs, hd⟩ := p1
    refine ⟨fun i m σ' H' => m = ds.length - i ∧ i ≤ ds.length ∧ ∃ w' env', w'.H = H' ∧ Same w1.B w'.B ∧ Rel K en w' env' σ' ∧ Inv i env', ⟨ds.length, by simp, Nat.zero_le _, w1, env1, rfl, Same.refl _, R1, h0⟩, ?_⟩
    rintro i m σ' H' ⟨rfl, hi, w', env', rfl, sb, R', iv⟩
    have itw := it w' sb
    by_cases hlt : i < ds.length
    · right
      obtain ⟨go, yl⟩ := itw.1 i ds[i] (List.getElem?_eq_getElem hlt)
      refine ⟨go, fun σ2 H2 => ∃ w2 env2, w2.H = H2 ∧ Same w1.B w2.B ∧ Rel K en w2 env2 σ2 ∧ Inv (i + 1) env2, fun σ2 H2 ⟨w2, env2, q1, q2, q3, q4⟩ => ⟨ds.length - (i + 1), by omega, rfl, hlt, w2, env2, q1, q2, q3, q4⟩, fun x H2 y => ?_⟩
      obtain ⟨w2, rfl, e2, rd⟩ := yl x H2 y
      obtain ⟨us, G, body⟩ := hs i ds[i] env' (List.getElem?_eq_getElem hlt) iv
      refine G.run rd fun vs gv => ?_
      have sb2 := sb.trans e2.b
      have sb3 := s1.trans sb2
      refine body en w2 _ ((R'.grow e2).sets gv) _ (fun w3 σ3 env3 s3 R3 n3 => ⟨w3, env3, rfl, sb2.trans s3, R3, n3⟩) (fun w3 σ3 env3 s3 R3 n3 => hn w3 σ3 env3 (sb3.trans s3) R3 n3) (fun w3 σ3 env3 s3 R3 n3 => ⟨w3, env3, rfl, sb2.trans s3, R3, n3⟩) (hr.back sb3)
    · left
      have e : i = ds.length := by omega
      subst e
      exact ⟨itw.2 _ (Nat.le_refl _), hn w' σ' env' (s1.trans sb) R' (hd env' iv)⟩
end
section
open PySem.Spec PyProof.Rows NdefX
/-- a default that is None -/
theorem binds_df1 {K : PySem.W.Frag} {fd : FuncData} {ps : List Str} {T : Addr} {o : Obj} {its : List Value} {n : Nat} (lT : K.lookup T = some o) (oT : o.data = .seq its.toArray n)
    (h : ∀ us : List Value, us.length + 1 = ps.length → ∃ k, bindArgs fd ⟨us, []⟩ = seqItems? (.ref T) >>= k ∧ k (some its.toArray) = pure (ps.zip (us ++ [.none]))) : Binds K fd ps [.none] := fun s us X hl => by
  obtain ⟨k, e1, e2⟩ := h us (by simpa using hl)
  refine BindsTo.of_looks fun M => ?_
  rw [e1]
  exact looks_items X lT oT (.of_pure e2)
end
theorem fnok_noM {Pr : Program} {wd : World} {K : PySem.W.Frag} {mg : Str → Option Value} {base : Heap} {x qual : Str} {st : Stmt} {f : Addr} {fd : FuncData} {N ps : List Str} {k : Nat} {S : SpM} (F : Fun K x qual st f fd) (Sc : FnScope N ps (defScope st)) (h : ∀ as R, ¬ S as R) : FnOk Pr wd K mg base CX0 (k + 1) f fd ps (spM K S) :=
  okM F Sc (fun as R z => (h as R z).elim) fun cdv A outer s H E hr => ⟨_, pss_no, fun as R z => (h as R z).elim⟩
end DL

set_option Elab.async false
set_option linter.all false
set_option maxRecDepth 100000
set_option autoImplicit false
namespace DL
open PySem L2
section
variable {K : PySem.W.Frag} {env : List Sl} {Pp : Post} {w w' : Wd} {te ta tb tr : TE} {tt : TT} {tA : TA} {en : En} {Pf : D → List Sl → Prop} {Pa : List D → List Sl → Prop} {Pm : Sl → List Sl → Prop} {t u : TS} {P : Sl → Prop}
/-! ### calls whose arguments have effects -/
theorem dra_sla2 {w0 w1 : Wd} {ds : List D} {vs : List V} (h : DrA K w1.B ds vs) : SlA K w0 w1 (ds.map .val) vs := sla_dra h
/-- f(x, e ..), x the variable i, the e change the frame's trees (x too) on the way -/
theorem em_callF {i : Nat} {t0 : OT} {S : SpM} {E : XK} (e0 : env[i]? = some (.own t0) ∨ env[i]? = some (.io t0))
    (h : EvFA K tA env fun ds env1 => env1.length = env.length → ∃ t, (env1[i]? = some (.own t) ∨ env1[i]? = some (.io t)) ∧ S (.io t :: ds.map .val) fun s as' => ∃ t', as'[0]? = some (.io t') ∧ Pm s (putS env1 i t')) : EvM K (tCall (spM K S) [] E (tCons (tVar i) tA)) env Pm := fun en w σ R Q q => by
  have hv : ∃ v0, σ[i]? = some (some v0) := by
    obtain ⟨F, R⟩ := R
    have hil : i < env.length := by rcases e0 with e | e <;> exact (List.getElem?_eq_some_iff.mp e).1
    obtain ⟨s, o, q1, q2⟩ := slot_at hil R.len
    rcases e0 with e | e
    · obtain ⟨v', z, r⟩ := R.sl i _ _ e q2; exact ⟨_, z ▸ q2⟩
    · obtain ⟨⟨v', z, r⟩, _⟩ := R.sl i _ _ e q2; exact ⟨_, z ▸ q2⟩
  obtain ⟨v0, hv⟩ := hv
  refine ⟨v0, hv, h en w σ R _ fun ds vs w1 env1 s1 r1 R1 p1 => ?_⟩
  obtain ⟨t, e, p⟩ := p1 (R1.len.trans R.len.symm)
  obtain ⟨F, R1⟩ := R1
  obtain ⟨w0, hB, h1, h2, Rc⟩ := rel_args R1 e hv r1
  show spM K S (v0 :: vs ++ []) w1.H Q E
  rw [List.append_nil]
  refine ⟨⟨w0, v0 :: vs⟩, w1, .io t :: ds.map .val, _, rfl, rfl, Rc, p, fun s v w' as' st sb R' z => ?_⟩
  obtain ⟨t', h0, p⟩ := z
  exact q s v w' _ st (s1.trans sb) (back_io R1 e hv hB h1 h2 st sb R' h0) p
theorem ef_ioF {i : Nat} {S : SpM} {E : XK} (e0 : ∃ t0, env[i]? = some (.own t0) ∨ env[i]? = some (.io t0))
    (h : EvFA K tA env fun ds env1 => ∃ t, (env1[i]? = some (.own t) ∨ env1[i]? = some (.io t)) ∧ ∃ xs : List D, ds.map Sl.val = xs.map .val ∧ S (.io t :: xs.map .val) fun s as' => ∃ t' d, as'[0]? = some (.io t') ∧ s = .val d ∧ Pf d (putS env1 i t')) : EvF K (tCall (spM K S) [] E (tCons (tVar i) tA)) env Pf := by
  obtain ⟨t0, e0⟩ := e0
  refine ef_em (em_callF e0 fun en w σ R Q q => h en w σ R Q fun ds vs w1 env1 s1 r1 R1 p1 => q ds vs w1 env1 s1 r1 R1 fun hl => ?_)
  obtain ⟨t, e, xs, ex, p⟩ := p1
  refine ⟨t, e, ?_⟩
  have eq : (fun s as' => ∃ t', as'[0]? = some (.io t') ∧ (putS env1 i t').length = env.length ∧ ∃ d, s = .val d ∧ Pf d (putS env1 i t')) = fun (s : Sl) (as' : List Sl) => ∃ t' d, as'[0]? = some (.io t') ∧ s = .val d ∧ Pf d (putS env1 i t') := by
    funext s as'
    apply propext
    constructor
    · rintro ⟨t', a, _, d, b, c⟩; exact ⟨t', d, a, b, c⟩
    · rintro ⟨t', d, a, b, c⟩; exact ⟨t', a, by rw [putS_len, hl], d, b, c⟩
  rw [eq, ex]
  exact p
/-- a def of data, called with arguments that have effects -/
theorem ef_call {S : SpD} {E : XK} (h : EvFA K tA env fun ds env1 => ∃ ts, Paired Co (ds.map .val) ts ∧ S ts fun s => ∃ d, s = .val d ∧ Pf d env1) : EvF K (tCall (spD K S) [] E tA) env Pf := fun en w σ R Q q =>
  h en w σ R _ fun ds vs w1 env1 s1 r1 R1 p1 => by
    obtain ⟨ts, c, p⟩ := p1
    rw [List.append_nil]
    obtain ⟨hl, hk⟩ := coA (us := vs) c (sla_dra (w0 := w1) r1)
    exact ⟨⟨w1, vs⟩, w1, ts, fun s _ => ∃ d, s = .val d ∧ Pf d env1, rfl, rfl, ⟨fun _ => [], w1.rfl', by simp [hl], by simp [hl], fun i t o a b => hk i t o a b i, fun i j p _ _ z => by simp at z⟩, by simpa using p, fun s v w' as' st _ R' z => by
      obtain ⟨d, rfl, p⟩ := z
      exact q d v w' env1 (s1.trans R'.le.b) (show SlN K w1 w' (.val d) v from Rel.last (.val _) R') (R1.grow R'.le) p⟩
/-- an operator whose result is fresh -/
theorem ef_opF {r : R2} (h : EvF K ta env fun d1 env1 => EvF K tb env1 fun d2 env2 => RvP K r (.val d1) (.val d2) fun s => ∃ d, Frz s d ∧ Pf d env2) : EvF K (tOp r ta tb) env Pf := fun en w σ R Q q =>
  h en w σ R _ fun d1 v1 w1 env1 s1 r1 R1 p1 => p1 en w1 σ R1 _ fun d2 v2 w2 env2 s2 r2 R2 p2 =>
    p2 w2 w2 v1 v2 w2.rfl' (Dr.mono s2 r1) r2 _ fun s v w3 e3 p3 r3 => by
      obtain ⟨d, f, p⟩ := p3
      obtain ⟨w4, e4, e5, _, r4⟩ := frz_ok e3 f r3
      have := q d v w4 env2 (s1.trans (s2.trans e5.b)) r4 (R2.grow e5) p
      rw [e4] at this
      exact this
/-- a def that may raise, called where it does not -/
theorem ev_callN {S : SpX} (h : EvA K tA env fun ss => ∃ ts, Paired Co ss ts ∧ S ts (fun s _ => P s) fun _ _ _ => False) : EvE K (tCallS (spX K S) (WE fun _ _ _ _ => False) tA) env P :=
  ev_ofX (evx_call h)
/-! ### a, b = x, y -/
theorem wp_par {i j : Nat} (h : EvA K tA env fun ss => ∃ d1 d2 : D, ss = [.val d1, .val d2] ∧ Pp.nx ((env.set i (.val d1)).set j (.val d2))) : Wp K (tPar i j tA) env Pp := fun en w σ R D hn _ _ _ =>
  h en w σ R _ fun ss vs w1 e1 p r => by
    obtain ⟨d1, d2, rfl, p⟩ := p
    cases r with
    | cons r1 r =>
      cases r with
      | cons r2 r =>
        cases r
        exact ⟨_, _, rfl, hn w1 _ _ e1.b (((R.grow e1).setVal r1).setVal r2) p⟩
/-! ### xs.insert(i, e) -/
def rIns : V → List V → Hp → VK → Prop := fun x vs H Q => ∃ (l : Addr) (xs : List V) (i : Int) (y : V), x = .ref l ∧ vs = [.int i, y] ∧ H l = some (.lst xs) ∧ xs.length < sizeLine ∧ 0 ≤ i ∧ i < 2 ^ 63 ∧
    Q .non (upd H l (.lst (xs.take i.toNat ++ [y] ++ xs.drop i.toNat)))
theorem mt_ins {X : Cx} : MtR X "list.insert" rIns := mt_insert
theorem DrA.app {B : Hp} {ds es : List D} {vs us : List V} (h : DrA K B ds vs) (h2 : DrA K B es us) : DrA K B (ds ++ es) (vs ++ us) := by
  induction ds generalizing vs with
  | nil => cases h; exact h2
  | cons x r ih =>
    cases h with
    | cons a b => exact .cons a (ih b)
theorem wpf_ins {i : Nat} {ds : List D} (e : env[i]? = some (.own (oL ds))) (h : EvFA K tA env fun xs env' => ∃ (k : Nat) (d : D) (es : List D), xs = [.int (k : Int), d] ∧ env'[i]? = some (.own (oL es)) ∧ es.length < 1000000 ∧ k ≤ 1000000 ∧ Pp.nx (env'.set i (.own (oL (es.take k ++ [d] ++ es.drop k))))) :
    Wp K (tDrop (tBM K "list" rIns (tVar i) tA)) env Pp := fun en w σ R D hn _ _ _ => by
  obtain ⟨o, fp, h1, v, rfl, own⟩ := R.at e
  obtain ⟨pp, xs, rfl, _, hp, _⟩ := own.1.oL_inv
  refine ⟨.ref pp, h1, .inl ⟨rfl, _, .inl (.inl hp)⟩, ?_⟩
  refine h en w σ R _ fun ys' vs w2 env' sb ry R2 p => ?_
  obtain ⟨k, d, es, rfl, e', hl, hk, p⟩ := p
  cases ry with
  | @cons _ v1 _ _ q1 ry =>
    cases ry with
    | @cons _ y _ _ q2 ry =>
      cases ry
      cases q1
      obtain ⟨o2, fp2, h2, v2, rfl, own2⟩ := R2.at e'
      rw [h1] at h2
      cases h2
      obtain ⟨pp2, ys, e3, _, hp2, rs2⟩ := own2.1.oL_inv
      cases e3
      refine ⟨pp, ys, (k : Int), y, rfl, rfl, hp2, Nat.lt_of_lt_of_le (by rw [← rs2.len]; exact hl) (by decide), by omega, by omega, ?_⟩
      rw [Int.toNat_natCast]
      obtain ⟨w3, h3, b3, R3⟩ := R2.write (s := oL es) (s' := oL (es.take k ++ [d] ++ es.drop k)) (o := .lst ys) (o' := .lst (ys.take k ++ [y] ++ ys.drop k)) (f := id) (.inl e') h1 .here (fun fs ts nd no => by
        obtain ⟨pp3, zs, e4, e5, hp3, rs3⟩ := ts.oL_inv
        cases e4
        subst e5
        rw [hp2] at hp3
        cases hp3
        exact ⟨by simp, fun H' z1 z2 => ⟨[pp], TR.ofL z1 (((rs3.take k).app (.cons q2 .nil)).app (rs3.drop k)), by simp, fun q z => ⟨(no q z).1, (no q z).2, .inl z⟩⟩⟩)
      rw [← h3]
      refine hn w3 σ _ (sb.trans b3) R3 ?_
      show Pp.nx (putS env' i (oL (es.take k ++ [d] ++ es.drop k)))
      rw [putS_own e']
      exact p
/-! ### for over a list of one's own, whose body is `if test: return` -/
theorem wp_forT {i : Nat} {ds : List D} {g : TG} (Inv : Nat → List Sl → Prop) (e : env[i]? = some (.own (oL ds))) (h0 : Inv 0 env)
    (hs : ∀ j d env', ds[j]? = some d → Inv j env' → ∃ us, GD K g d us ∧ EvT K tt (sets us env') fun b => (b = true → Wp K u (sets us env') { nx := fun _ => False, rt := Pp.rt, bk := fun _ => False, ct := fun _ => False }) ∧ (b = false → Inv (j + 1) (sets us env')))
    (hd : ∀ env', Inv ds.length env' → Pp.nx env') : Wp K (tFor (iSeq K (tVar i)) g (tIfS tt u tNext)) env Pp := fun en w σ R D hn hb hc hr =>
  (ei_own (Pd := fun ys => ys = ds) e rfl) en w σ R _ fun J ds' w1 e1 hy it => by
    subst hy
    refine ⟨fun i m σ' H' => m = ds'.length - i ∧ i ≤ ds'.length ∧ ∃ w' env', w'.H = H' ∧ w1.le w' ∧ Rel K en w' env' σ' ∧ Inv i env', ⟨ds'.length, by simp, Nat.zero_le _, w1, env, rfl, w1.rfl', R.grow e1, h0⟩, ?_⟩
    rintro i m σ' H' ⟨rfl, hi, w', env', rfl, le, R', iv⟩
    have itw := it w' le
    by_cases hlt : i < ds'.length
    · right
      obtain ⟨go, yl⟩ := itw.1 i ds'[i] (List.getElem?_eq_getElem hlt)
      refine ⟨go, fun σ2 H2 => ∃ w2 env2, w2.H = H2 ∧ w1.le w2 ∧ Rel K en w2 env2 σ2 ∧ Inv (i + 1) env2, fun σ2 H2 ⟨w2, env2, q1, q2, q3, q4⟩ => ⟨ds'.length - (i + 1), by omega, rfl, hlt, w2, env2, q1, q2, q3, q4⟩, fun x H2 y => ?_⟩
      obtain ⟨w2, rfl, e2, rd⟩ := yl x H2 y
      obtain ⟨us, G, body⟩ := hs i ds'[i] env' (List.getElem?_eq_getElem hlt) iv
      refine G.run rd fun vs gv => ?_
      have R2 := (R'.grow e2).sets gv
      refine body en w2 _ R2 _ fun b w3 e3 p => ?_
      have le3 := e1.trans ((le.trans e2).trans e3)
      cases b with
      | true => exact p.1 rfl en w3 _ (R2.grow e3) _ (fun _ _ _ _ _ z => z.elim) (fun _ _ _ _ _ z => z.elim) (fun _ _ _ _ _ z => z.elim) (hr.back le3.b)
      | false => exact ⟨w3, _, rfl, (le.trans e2).trans e3, R2.grow e3, p.2 rfl⟩
    · left
      have e : i = ds'.length := by omega
      subst e
      exact ⟨itw.2 _ (Nat.le_refl _), hn w' σ' env' (e1.trans le).b R' (hd env' iv)⟩
/-! ### isinstance(e, ValueError) -/
def rIsV (K : PySem.W.Frag) (a : Addr) (cls : Value) (d : Option Addr) : List V → Hp → VK → Prop := fun xs H Q => ∃ (C dd : Addr) (fs : List (Str × V)), xs = [.ref a, .ty "ValueError"] ∧ cls = .ref C ∧ d = some dd ∧ H dd = some (.xd fs) ∧ ExcC K C ∧ PySem.W.subIn K (.ref C) (.type "ValueError") = some true ∧ Q (.bl true) H
theorem call_isV {X : Cx} {a : Addr} {oe : Obj} {cls : Value} {d : Option Addr} {pn : List (Addr × Obj)} (hz : Zc cls d oe) (hf : ∃ vs, oe.data = .fields vs) : CallR (X.suite a ((a, oe) :: pn)) (.builtin "isinstance") (rIsV X.K a cls d) := by
  intro pins s σ H xs us Q I r h
  obtain ⟨C, dd, fs, rfl, ec, ed, ea, T, e, q⟩ := h
  subst ec ed
  cases r with
  | cons rx rr =>
    cases rr with
    | cons rt rr =>
      cases rr
      cases rx
      cases rt
      obtain ⟨hget, _⟩ := I.pin (a, oe) (List.mem_append.mpr (.inl List.mem_cons_self))
      obtain ⟨vs, hv⟩ := hf
      have hx : ObjOk X.prog X.w H s.heap dd (.xd fs) := I.hok dd _ ea
      obtain ⟨mA, hns, hr⟩ := hx
      obtain ⟨od, ho, hl⟩ := lookIn_ns hns
      have J : PySem.W.InstAt s.heap a oe C (some od) := ⟨hget, hz.1, by unfold PySem.W.notCls; rw [hv] <;> rfl, by rw [hz.2]; exact ho⟩
      have hcl : (PySem.W.clsIn X.K C).isSome = true := by
        obtain ⟨cd, hc, _⟩ := PySem.W.any_some T.hd
        rw [hc]; rfl
      have e2 : PySem.W.kitOne X.K (.ref C) (.type "ValueError") = some true := by
        have m : PySem.W.kitMeta "ValueError" = true := by decide +kernel
        unfold PySem.W.kitOne PySem.W.kitCls
        rw [if_neg (by simp)]
        show (if PySem.W.kitMeta "ValueError" = true then PySem.W.subIn X.K (.ref C) (.type "ValueError") else none) = some true
        rw [if_pos m]
        exact e
      exact PySem.W.kia_one (PySem.W.kitx_exc hcl T.hg T.hk T.hs T.ha T.hn T.ht T.hm) I.kIn J e2 (fun z => nomatch z) fun tk => ⟨.bl true, H, I.kept (t' := tk) fun _ _ z => z, rfl, q⟩
theorem ra_isV {a dx C : Addr} {d : D} (T : ExcC K C) (e : PySem.W.subIn K (.ref C) (.type "ValueError") = some true) (p : P (.val (.bl true))) : RaP K (rIsV K a (.ref C) (some dx)) [.val (.exc a dx d), .val (.ty "ValueError")] P := fun w wx vs e1 r Q q => by
  cases r with
  | cons r t =>
    cases t with
    | cons r2 t2 =>
      cases t2
      cases r with
      | exc hb r =>
        cases r2
        exact ⟨C, dx, _, rfl, rfl, rfl, wx.sub _ _ hb, T, e, q _ _ wx wx.rfl' p (.bl _)⟩
end
end DL

set_option Elab.async false
set_option linter.all false
set_option maxRecDepth 100000
set_option autoImplicit false
namespace DL
open PySem L2
/-! ### arguments that stand within the frame's trees -/
structure Nd where
  i : Nat
  t : OT
  vr : V
  s : OT
  u : V
  f : OT → OT
structure NdAt (env : List Sl) (σ : TSt) (H : Hp) (n : Nd) : Prop where
  e : env[n.i]? = some (.own n.t) ∨ env[n.i]? = some (.io n.t)
  hv : σ[n.i]? = some (some n.vr)
  a : AtV H n.t n.vr n.s n.u n.f
def NdsAt (env : List Sl) (σ : TSt) (H : Hp) (ns : List Nd) : Prop := ∀ n ∈ ns, NdAt env σ H n
theorem NdsAt.mono {env : List Sl} {σ : TSt} {H H' : Hp} {ns : List Nd} (hh : Same H H') (h : NdsAt env σ H ns) : NdsAt env σ H' ns := fun n hn => ⟨(h n hn).e, (h n hn).hv, (h n hn).a.mono hh⟩
structure Foc (K : PySem.W.Frag) (w1 : Wd) (n : Nd) (fp f1 fs : List Addr) : Prop where
  pm : fp.Perm (f1 ++ fs)
  tr : TR K w1.B w1.H n.s n.u fs
  rb : ∀ (B' H' : Hp) (s' : OT) (fs' : List Addr), Same w1.B B' → (∀ p o, p ∈ f1 → w1.H p = some o → H' p = some o) → TR K B' H' s' n.u fs' → ∃ fp', TR K B' H' (n.f s') n.vr fp' ∧ fp'.Perm (f1 ++ fs')
theorem nd_inj {α β : Type} {f : α → β} : ∀ {l : List α}, (l.map f).Nodup → ∀ {a b : α}, a ∈ l → b ∈ l → f a = f b → a = b
  | [], _, a, b, ha, _, _ => by cases ha
  | x :: r, nd, a, b, ha, hb, e => by
    have nd := List.nodup_cons.mp nd
    rcases List.mem_cons.mp ha with h1 | h1
    · rcases List.mem_cons.mp hb with h2 | h2
      · rw [h1, h2]
      · exact (nd.1 (List.mem_map.mpr ⟨b, h2, by rw [← e, h1]⟩)).elim
    · rcases List.mem_cons.mp hb with h2 | h2
      · exact (nd.1 (List.mem_map.mpr ⟨a, h1, by rw [e, h2]⟩)).elim
      · exact nd_inj nd.2 h1 h2 e
section
variable {K : PySem.W.Frag} {env : List Sl} {w w' w'' w3 : Wd} {te ta tb tc td ti : TE} {tA : TA} {en : En} {Pm : Sl → List Sl → Prop} {ns : List Nd} {σ : TSt} {w0 w1 : Wd} {F o g : Nat → List Addr}
theorem foc_all (R : RelF K en w1 env σ F) (nd : (ns.map (·.i)).Nodup) (I : NdsAt env σ w1.H ns) : ∃ o g : Nat → List Addr, ∀ n ∈ ns, Foc K w1 n (F n.i) (o n.i) (g n.i) := by
  have one : ∀ i, ∃ p : List Addr × List Addr, ∀ n ∈ ns, n.i = i → Foc K w1 n (F n.i) p.1 p.2 := fun i => by
    by_cases h : ∃ n ∈ ns, n.i = i
    · obtain ⟨n, hn, e⟩ := h
      obtain ⟨h1, h2, h3⟩ := I n hn
      obtain ⟨f1, fs, a, b, c⟩ := h3.focus (own_of R h1 h2).1
      refine ⟨(f1, fs), fun m hm e' => ?_⟩
      obtain rfl : m = n := nd_inj nd hm hn (e'.trans e.symm)
      exact ⟨a, b, c⟩
    · exact ⟨([], []), fun n hn e => (h ⟨n, hn, e⟩).elim⟩
  obtain ⟨q, hq⟩ := Classical.skolem.mp one
  exact ⟨fun i => (q i).1, fun i => (q i).2, fun n hn => hq n.i n hn rfl⟩
def innA (g : Nat → List Addr) (ns : List Nd) : List Addr := ns.flatMap fun n => g n.i
theorem innA_mem {p : Addr} : p ∈ innA g ns ↔ ∃ n ∈ ns, p ∈ g n.i := by simp [innA]
theorem Foc.inn {n : Nd} {fp f1 fs : List Addr} (f : Foc K w1 n fp f1 fs) {p : Addr} (h : p ∈ fs) : p ∈ fp := f.pm.mem_iff.mpr (List.mem_append_right _ h)
theorem Foc.out {n : Nd} {fp f1 fs : List Addr} (f : Foc K w1 n fp f1 fs) {p : Addr} (h : p ∈ f1) : p ∈ fp := f.pm.mem_iff.mpr (List.mem_append_left _ h)
theorem nd_lt (R : RelF K en w1 env σ F) (I : NdsAt env σ w1.H ns) {n : Nd} (hn : n ∈ ns) : n.i < env.length := by
  rcases (I n hn).e with e | e <;> exact (List.getElem?_eq_some_iff.mp e).1
theorem rel_argsNd {vs : List V} {ds : List D} (R : RelF K en w1 env σ F) (nd : (ns.map (·.i)).Nodup) (I : NdsAt env σ w1.H ns) (fo : ∀ n ∈ ns, Foc K w1 n (F n.i) (o n.i) (g n.i)) (rs : DrA K w1.B ds vs) :
    ∃ w0 : Wd, w0.B = w1.B ∧ (∀ p, p ∈ innA g ns → w0.H p = none) ∧ (∀ p, ¬ p ∈ innA g ns → w0.H p = w1.H p) ∧ Rel K ⟨w0, ns.map (·.u) ++ vs⟩ w1 (ns.map (fun n => .io n.s) ++ ds.map .val) ((ns.map (·.u) ++ vs).map some) := by
  have own : ∀ n ∈ ns, Own K en.w0.H w1 n.t n.vr (F n.i) := fun n hn => own_of R (I n hn).e (I n hn).hv
  obtain ⟨w0, hB, h1, h2, hle⟩ := carve_world w1 (innA g ns) fun p z => by
    obtain ⟨n, hn, hp⟩ := innA_mem.mp z
    exact ((own n hn).2.2 p ((fo n hn).inn hp)).2
  refine ⟨w0, hB, h1, h2, fun k => match ns[k]? with | some n => g n.i | none => [], hle, by simp [rs.len], by simp [rs.len], fun k s o' a b => ?_, fun j k p _ _ a b => ?_⟩
  · cases hk : ns[k]? with
    | some n =>
      have hn := List.mem_of_getElem? hk
      have ow := own n hn
      have hkl := (List.getElem?_eq_some_iff.mp hk).1
      rw [List.getElem?_append_left (by simpa using hkl), List.getElem?_map, hk] at a
      cases a
      have hb : ((ns.map (·.u) ++ vs).map some)[k]? = some (some n.u) := by
        rw [List.getElem?_map, List.getElem?_append_left (by simpa using hkl), List.getElem?_map, hk]; rfl
      rw [hb] at b; cases b
      have nd2 : (g n.i).Nodup := (List.nodup_append.mp ((fo n hn).pm.nodup_iff.mp ow.2.1)).2.1
      refine ⟨⟨_, rfl, (fo n hn).tr, nd2, fun p z => ⟨h1 p (innA_mem.mpr ⟨n, hn, z⟩), (ow.2.2 p ((fo n hn).inn z)).2⟩⟩, ?_⟩
      show (ns.map (·.u) ++ vs)[k]? = some n.u
      rw [List.getElem?_append_left (by simpa using hkl), List.getElem?_map, hk]; rfl
    | none =>
      have hk' : ns.length ≤ k := List.getElem?_eq_none_iff.mp hk
      rw [List.getElem?_append_right (by simp; exact hk')] at a
      rw [List.getElem?_map, List.getElem?_append_right (by simp; exact hk')] at b
      simp only [List.length_map, List.getElem?_map] at a b
      cases hd : ds[k - ns.length]? with
      | none => rw [hd] at a; cases a
      | some d =>
        rw [hd] at a; cases a
        obtain ⟨v, hv2, rd⟩ := rs.get hd
        rw [hv2] at b; cases b
        exact ⟨rfl, _, rfl, rd⟩
  · cases hj : ns[j]? with
    | none => simp [hj] at a
    | some n =>
      cases hk : ns[k]? with
      | none => simp [hk] at b
      | some m =>
        simp only [hj] at a; simp only [hk] at b
        have hn := List.mem_of_getElem? hj
        have hm := List.mem_of_getElem? hk
        have := R.ap n.i m.i p (nd_lt R I hn) (nd_lt R I hm) ((fo n hn).inn a) ((fo m hm).inn b)
        have hnm := nd_inj nd hn hm this
        subst hnm
        have nd0 : ns.Nodup := (List.pairwise_map.mp nd).imp fun h z => h (by rw [z])
        exact (List.getElem?_inj (List.getElem?_eq_some_iff.mp hj).1 nd0).mp (hj.trans hk.symm)
/-- the trees anew -/
def putN (env : List Sl) (ns : List Nd) (ts' : List OT) : List Sl := putM env ((ns.zip ts').map fun q => (q.1.i, q.1.f q.2))
theorem back_ioNd {ts' : List OT} {vs : List V} {s : Sl} {v : V} {as' : List Sl} (R : RelF K en w1 env σ F) (nd : (ns.map (·.i)).Nodup) (I : NdsAt env σ w1.H ns) (fo : ∀ n ∈ ns, Foc K w1 n (F n.i) (o n.i) (g n.i))
    (hB : w0.B = w1.B) (h1 : ∀ p, p ∈ innA g ns → w0.H p = none) (h2 : ∀ p, ¬ p ∈ innA g ns → w0.H p = w1.H p)
    (st : StS s) (sb : Same w1.B w'.B) (R' : Rel K ⟨w0, ns.map (·.u) ++ vs⟩ w' (as' ++ [s]) ((ns.map (·.u) ++ vs).map some ++ [some v])) (lt' : ts'.length = ns.length) (h0 : ∀ (m : Nat) t', ts'[m]? = some t' → as'[m]? = some (.io t')) :
    Rel K en w' (putN env ns ts' ++ [s]) (σ ++ [some v]) := by
  obtain ⟨F', R'⟩ := R'
  have own : ∀ n ∈ ns, Own K en.w0.H w1 n.t n.vr (F n.i) := fun n hn => own_of R (I n hn).e (I n hn).hv
  have isl : ∀ n ∈ ns, n.i < env.length := fun n hn => nd_lt R I hn
  have hlen : as'.length = (ns.map (·.u) ++ vs).length := by
    have := R'.len; simp at this; simp; omega
  have none0 : ∀ p, w0.H p = none → en.w0.H p = none := fun p z => by
    by_cases hp : p ∈ innA g ns
    · obtain ⟨n, hn, hp⟩ := innA_mem.mp hp
      exact ((own n hn).2.2 p ((fo n hn).inn hp)).1
    · rw [h2 p hp] at z; exact R.le.h.free z
  have ent : ∀ p x, en.w0.H p = some x → ¬ p ∈ innA g ns := fun p x z hp => by
    obtain ⟨n, hn, hp⟩ := innA_mem.mp hp
    rw [((own n hn).2.2 p ((fo n hn).inn hp)).1] at z; cases z
  have keepB : ∀ p x, ¬ p ∈ innA g ns → w1.H p = some x → w'.H p = some x ∧ (w1.B p = none → w'.B p = none) := fun p x hp z => by
    have z0 : w0.H p = some x := by rw [h2 p hp]; exact z
    refine ⟨R'.le.h p x z0, fun n => ?_⟩
    have := R'.le.f p x z0
    rw [this]
    show w0.B p = none
    rw [hB]; exact n
  -- what stands outside of the nodes is not within one
  have outni : ∀ n ∈ ns, ∀ p ∈ o n.i, ¬ p ∈ innA g ns := fun n hn p z hp => by
    obtain ⟨m, hm, hp⟩ := innA_mem.mp hp
    have e := R.ap n.i m.i p (isl n hn) (isl m hm) ((fo n hn).out z) ((fo m hm).inn hp)
    have := nd_inj nd hn hm e
    subst this
    have := (List.nodup_append.mp ((fo n hn).pm.nodup_iff.mp (own n hn).2.1)).2.2 p z p hp
    exact this rfl
  have outH : ∀ n ∈ ns, ∀ p ∈ o n.i, ∃ x, w0.H p = some x := fun n hn p z => by
    obtain ⟨x, hx⟩ := (own n hn).1.there p ((fo n hn).out z)
    exact ⟨x, by rw [h2 p (outni n hn p z)]; exact hx⟩
  have new0 : ∀ (m : Nat) (n : Nd), ns[m]? = some n → ∃ t', ts'[m]? = some t' ∧ Own K w0.H w' t' n.u (F' m) := fun m n hm => by
    have hml := (List.getElem?_eq_some_iff.mp hm).1
    have e3 := List.getElem?_eq_getElem (l := ts') (i := m) (by rw [lt']; exact hml)
    have e4 := h0 m _ e3
    have hv : ((ns.map (·.u) ++ vs).map some ++ [some v])[m]? = some (some n.u) := by
      rw [List.getElem?_append_left (by simp; omega), List.getElem?_map, List.getElem?_append_left (by simpa using hml), List.getElem?_map, hm]; rfl
    obtain ⟨⟨v', z, r⟩, _⟩ := R'.sl m _ (some n.u) (by rw [List.getElem?_append_left (List.getElem?_eq_some_iff.mp e4).1]; exact e4) hv
    cases z
    exact ⟨_, e3, r⟩
  have reb : ∀ (m : Nat), ∃ fp' : List Addr, ∀ (n : Nd), ns[m]? = some n → ∃ t', ts'[m]? = some t' ∧ Own K en.w0.H w' (n.f t') n.vr fp' ∧ fp'.Perm (o n.i ++ F' m) := fun m => by
    cases hm : ns[m]? with
    | none => exact ⟨[], fun n z => by cases z⟩
    | some n =>
      have hn := List.mem_of_getElem? hm
      obtain ⟨t', e1, ow⟩ := new0 m n hm
      obtain ⟨fp', q1, q2⟩ := (fo n hn).rb w'.B w'.H t' (F' m) sb (fun p x z1 z2 => (keepB p x (outni n hn p z1) z2).1) ow.1
      refine ⟨fp', fun n' hn' => ?_⟩
      cases hn'
      refine ⟨t', e1, ⟨q1, q2.nodup_iff.mpr (List.nodup_append.mpr ⟨(List.nodup_append.mp ((fo n hn).pm.nodup_iff.mp (own n hn).2.1)).1, ow.2.1, fun a ha b hb e => ?_⟩), fun p z => ?_⟩, q2⟩
      · subst e
        obtain ⟨x, hx⟩ := outH n hn a ha
        rw [(ow.2.2 a hb).1] at hx; cases hx
      · rcases List.mem_append.mp (q2.mem_iff.mp z) with z | z
        · have h3 := (own n hn).2.2 p ((fo n hn).out z)
          obtain ⟨x, hx⟩ := (own n hn).1.there p ((fo n hn).out z)
          exact ⟨h3.1, (keepB p x (outni n hn p z) hx).2 h3.2⟩
        · exact ⟨none0 p (ow.2.2 p z).1, (ow.2.2 p z).2⟩
  obtain ⟨G, hG⟩ := Classical.skolem.mp reb
  have nidx : ∀ k, k ∈ ns.map (·.i) → ∃ n, ns[(ns.map (·.i)).idxOf k]? = some n ∧ n.i = k := fun k hk => by
    have := idx_at hk
    rw [List.getElem?_map] at this
    cases e : ns[(ns.map (·.i)).idxOf k]? with
    | none => rw [e] at this; cases this
    | some n => rw [e] at this; exact ⟨n, rfl, by injection this⟩
  have fresh : ∀ (k : Nat) p, ¬ k ∈ ns.map (·.i) → k < env.length → p ∈ F k → ¬ p ∈ innA g ns := fun k p hk hkl z z' => by
    obtain ⟨n, hn, hp⟩ := innA_mem.mp z'
    have := R.ap k n.i p hkl (isl n hn) z ((fo n hn).inn hp)
    exact hk (this ▸ List.mem_map.mpr ⟨n, hn, rfl⟩)
  have there : ∀ (k : Nat) p, ¬ k ∈ ns.map (·.i) → k < env.length → p ∈ F k → ∃ x, w0.H p = some x := fun k p hk hkl z => by
    obtain ⟨s', o', q1, q2⟩ := slot_at hkl R.len
    obtain ⟨x, ho⟩ := ((R.sl k s' o' q1 q2).fp p z).1
    exact ⟨x, by rw [h2 p (fresh k p hk hkl z)]; exact ho⟩
  have il : ∀ m (n : Nd), ns[m]? = some n → m < as'.length := fun m n hm => by
    have := (List.getElem?_eq_some_iff.mp hm).1
    rw [hlen]; simp; omega
  have res : ∃ fs, SlS K en w' env.length s (some v) fs ∧ (∀ p ∈ fs, w0.H p = none) ∧ ∀ m (n : Nd), ns[m]? = some n → ∀ p ∈ fs, p ∈ F' m → False := by
    have a := R'.sl as'.length s (some v) (by simp) (by rw [hlen]; simp)
    cases st with
    | val d =>
      obtain ⟨_, v', ev, r⟩ := a; cases ev
      exact ⟨[], ⟨rfl, _, rfl, r⟩, by simp, by simp⟩
    | own x =>
      obtain ⟨v', ev, r⟩ := a; cases ev
      refine ⟨F' as'.length, ⟨_, rfl, r.1, r.2.1, fun p z => ⟨none0 p (r.2.2 p z).1, (r.2.2 p z).2⟩⟩, fun p z => (r.2.2 p z).1, fun m n hm p z1 z2 => ?_⟩
      have h3 := il m n hm
      have := R'.ap as'.length m p (by simp) (by simp; omega) z1 z2
      omega
  obtain ⟨fs, rs, rn, rd⟩ := res
  have hpl : (putN env ns ts').length = env.length := putM_len _ _
  have hz : ((ns.zip ts').map fun q : Nd × OT => (q.1.i, q.1.f q.2)).map (·.1) = ns.map (·.i) := by
    rw [List.map_map]
    show (ns.zip ts').map ((fun n : Nd => n.i) ∘ Prod.fst) = _
    rw [← List.map_map, List.map_fst_zip (by omega)]
  have Gd : ∀ m (n : Nd), ns[m]? = some n → ∀ p ∈ G m, p ∈ o n.i ∨ p ∈ F' m := fun m n hm p z => by
    obtain ⟨t', _, _, q⟩ := hG m n hm
    exact List.mem_append.mp (q.mem_iff.mp z)
  refine ⟨fun k => if k = env.length then fs else if k ∈ ns.map (·.i) then G ((ns.map (·.i)).idxOf k) else F k, ⟨R.le.b.trans sb, fun p x z => ?_, fun p x z => ?_⟩, ?_, ?_, fun k s' o' a b => ?_, fun j k p hj hk a b => ?_⟩
  · exact (keepB p x (ent p x z) (R.le.h p x z)).1
  · have z0 : w0.H p = some x := by rw [h2 p (ent p x z)]; exact R.le.h p x z
    rw [R'.le.f p x z0]
    show w0.B p = _
    rw [hB]; exact R.le.f p x z
  · simp [hpl, R.len]
  · have := R.an; simp [hpl]; omega
  · by_cases hk : k = env.length
    · subst hk
      rw [List.getElem?_append_right (by rw [hpl]; exact Nat.le_refl _), hpl] at a
      rw [List.getElem?_append_right (by rw [R.len]; exact Nat.le_refl _), R.len] at b
      simp at a b; subst a b
      simpa using rs
    · have hkl : k < env.length := by
        have := (List.getElem?_eq_some_iff.mp a).1
        simp [hpl] at this; omega
      rw [List.getElem?_append_left (by rw [hpl]; exact hkl)] at a
      rw [List.getElem?_append_left (by rw [← R.len]; exact hkl)] at b
      simp only [hk, if_false]
      by_cases hki : k ∈ ns.map (·.i)
      · obtain ⟨n, hix, hni⟩ := nidx k hki
        have hn := List.mem_of_getElem? hix
        obtain ⟨t', e5, ow, _⟩ := hG _ n hix
        have e4 := (I n hn).hv
        have e3 := (I n hn).e
        rw [hni] at e3 e4
        rw [e4] at b; cases b
        rw [if_pos hki]
        have hzip : ((ns.zip ts').map fun q : Nd × OT => (q.1.i, q.1.f q.2))[(ns.map (·.i)).idxOf k]? = some (k, n.f t') := by
          rw [List.getElem?_map, show (ns.zip ts')[(ns.map (·.i)).idxOf k]? = some (n, t') from List.getElem?_zip_eq_some.mpr ⟨hix, e5⟩]
          show some (n.i, n.f t') = _
          rw [hni]
        obtain ⟨p1, p2⟩ := putM_at _ env _ k (n.f t') n.t (by rw [hz]; exact nd) hzip e3
        rcases e3 with e3 | e3
        · rw [show (putN env ns ts')[k]? = _ from p1 e3] at a; cases a
          exact ⟨_, rfl, ow⟩
        · obtain ⟨_, ea⟩ := R.sl k _ _ e3 e4
          rw [show (putN env ns ts')[k]? = _ from p2 e3] at a; cases a
          exact ⟨⟨_, rfl, ow⟩, ea⟩
      · rw [if_neg hki]
        have a' : env[k]? = some s' := by rw [show (putN env ns ts')[k]? = env[k]? from putM_ne _ _ _ (by rw [hz]; exact hki)] at a; exact a
        exact (R.sl k s' o' a' b).keep sb fun p x z1 z2 => keepB p x (fresh k p hki hkl z1) z2
  · have hj' : j ≤ env.length := by simp [hpl] at hj; omega
    have hk' : k ≤ env.length := by simp [hpl] at hk; omega
    -- one of the trees anew and the result
    have gs : ∀ j, j ∈ ns.map (·.i) → p ∈ G ((ns.map (·.i)).idxOf j) → p ∈ fs → False := fun j j2 a b => by
      obtain ⟨n, hix, _⟩ := nidx j j2
      rcases Gd _ n hix p a with a | a
      · obtain ⟨x, hx⟩ := outH n (List.mem_of_getElem? hix) p a
        rw [rn p b] at hx; cases hx
      · exact rd _ n hix p b a
    -- and another variable
    have gf : ∀ j k, j ∈ ns.map (·.i) → ¬ k ∈ ns.map (·.i) → k < env.length → p ∈ G ((ns.map (·.i)).idxOf j) → p ∈ F k → False := fun j k j2 k2 hkl a b => by
      obtain ⟨n, hix, hni⟩ := nidx j j2
      have hn := List.mem_of_getElem? hix
      rcases Gd _ n hix p a with a | a
      · have := R.ap n.i k p (isl n hn) hkl ((fo n hn).out a) b
        exact k2 (this ▸ List.mem_map.mpr ⟨n, hn, rfl⟩)
      · obtain ⟨x, hx⟩ := there k p k2 hkl b
        obtain ⟨_, _, o'⟩ := new0 _ n hix
        rw [(o'.2.2 p a).1] at hx; cases hx
    by_cases j1 : j = env.length
    · by_cases k1 : k = env.length
      · omega
      · rw [if_pos j1] at a; rw [if_neg k1] at b
        by_cases k2 : k ∈ ns.map (·.i)
        · rw [if_pos k2] at b; exact (gs k k2 b a).elim
        · rw [if_neg k2] at b
          obtain ⟨x, hx⟩ := there k p k2 (by omega) b
          rw [rn p a] at hx; cases hx
    · rw [if_neg j1] at a
      by_cases k1 : k = env.length
      · rw [if_pos k1] at b
        by_cases j2 : j ∈ ns.map (·.i)
        · rw [if_pos j2] at a; exact (gs j j2 a b).elim
        · rw [if_neg j2] at a
          obtain ⟨x, hx⟩ := there j p j2 (by omega) a
          rw [rn p b] at hx; cases hx
      · rw [if_neg k1] at b
        by_cases j2 : j ∈ ns.map (·.i)
        · rw [if_pos j2] at a
          by_cases k2 : k ∈ ns.map (·.i)
          · rw [if_pos k2] at b
            obtain ⟨n, hn1, hn2⟩ := nidx j j2
            obtain ⟨m, hm1, hm2⟩ := nidx k k2
            have hn := List.mem_of_getElem? hn1
            have hm := List.mem_of_getElem? hm1
            rcases Gd _ n hn1 p a with a | a
            · rcases Gd _ m hm1 p b with b | b
              · rw [← hn2, ← hm2]; exact R.ap n.i m.i p (isl n hn) (isl m hm) ((fo n hn).out a) ((fo m hm).out b)
              · obtain ⟨x, hx⟩ := outH n hn p a
                obtain ⟨_, _, o'⟩ := new0 _ m hm1
                rw [(o'.2.2 p b).1] at hx; cases hx
            · rcases Gd _ m hm1 p b with b | b
              · obtain ⟨x, hx⟩ := outH m hm p b
                obtain ⟨_, _, o'⟩ := new0 _ n hn1
                rw [(o'.2.2 p a).1] at hx; cases hx
              · have i1 := il _ n hn1
                have i2 := il _ m hm1
                have := R'.ap _ _ p (by simp; omega) (by simp; omega) a b
                rw [this, hm1] at hn1
                cases hn1
                rw [← hn2, ← hm2]
          · rw [if_neg k2] at b
            exact (gf j k j2 k2 (by omega) a b).elim
        · rw [if_neg j2] at a
          by_cases k2 : k ∈ ns.map (·.i)
          · rw [if_pos k2] at b; exact (gf k j k2 j2 (by omega) b a).elim
          · rw [if_neg k2] at b; exact R.ap j k p (by omega) (by omega) a b
/-! ### the arguments: nodes, then data -/
def EvNA (K : PySem.W.Frag) (tA : TA) (env : List Sl) (P : List (Nat × OT × (OT → OT)) → List D → Prop) : Prop := ∀ (en : En) (w : Wd) (σ : TSt), Rel K en w env σ → ∀ Q : List V → Hp → Prop,
  (∀ (ns : List Nd) (ds : List D) (vs : List V) (w' : Wd), w.le w' → NdsAt env σ w'.H ns → DrA K w'.B ds vs → P (ns.map fun n => (n.i, n.s, n.f)) ds → Q (ns.map (·.u) ++ vs) w'.H) → tA σ w.H Q
theorem na_data {P : List (Nat × OT × (OT → OT)) → List D → Prop} (h : EvA K tA env fun ss => ∃ ds : List D, ss = ds.map .val ∧ P [] ds) : EvNA K tA env P := fun en w σ R Q q =>
  h en w σ R _ fun ss vs w1 e1 p1 r1 => by
    obtain ⟨ds, rfl, p⟩ := p1
    exact q [] ds vs w1 e1 (fun n hn => by cases hn) (dra_sla r1) p
theorem na_cons {P : List (Nat × OT × (OT → OT)) → List D → Prop} (h : EvN K te env fun i s f => EvNA K tA env fun qs ds => P ((i, s, f) :: qs) ds) : EvNA K (tCons te tA) env P := fun en w σ R Q q =>
  h en w σ R _ fun i t s f vr u w1 e1 et hv a p => p en w1 σ (R.grow e1) _ fun ns ds vs w2 e2 I r2 p2 =>
    q (⟨i, t, vr, s, u, f⟩ :: ns) ds vs w2 (e1.trans e2) (fun n hn => by
      rcases List.mem_cons.mp hn with z | z
      · subst z; exact ⟨et, hv, a.mono e2.h⟩
      · exact I n z) r2 p2
theorem na_nil {P : List (Nat × OT × (OT → OT)) → List D → Prop} (h : P [] []) : EvNA K tNil env P := na_data (eva_nil ⟨[], rfl, h⟩)
theorem putN_eq {ts' : List OT} : putN env ns ts' = putM env (((ns.map fun n => (n.i, n.s, n.f)).zip ts').map fun q => (q.1.1, q.1.2.2 q.2)) := by
  unfold putN
  congr 1
  induction ns generalizing ts' with
  | nil => rfl
  | cons n r ih =>
    cases ts' with
    | nil => rfl
    | cons t ts => simp only [List.map_cons, List.zip_cons_cons]; rw [ih]
/-- f(n1, n2, .., data ..): nodes of different variables are changed -/
theorem em_callNd {S : SpM} {E : XK} (h : EvNA K tA env fun qs ds => (qs.map (·.1)).Nodup ∧ S (qs.map (fun q => .io q.2.1) ++ ds.map .val) fun s as' => ∃ ts' rest, as' = ts'.map Sl.io ++ rest ∧ ts'.length = qs.length ∧ Pm s (putM env ((qs.zip ts').map fun q => (q.1.1, q.1.2.2 q.2)))) :
    EvM K (tCall (spM K S) [] E tA) env Pm := fun en w σ R Q q =>
  h en w σ R _ fun ns ds vs w1 e1 I r1 p1 => by
    obtain ⟨nd, p⟩ := p1
    have nd : (ns.map (·.i)).Nodup := by rw [List.map_map] at nd; exact nd
    obtain ⟨F, R1⟩ := R.grow e1
    obtain ⟨o, g, fo⟩ := foc_all R1 nd I
    obtain ⟨w0, hB, h1, h2, Rc⟩ := rel_argsNd R1 nd I fo r1
    show spM K S ((ns.map (·.u) ++ vs) ++ []) w1.H Q E
    rw [List.append_nil]
    refine ⟨⟨w0, ns.map (·.u) ++ vs⟩, w1, ns.map (fun n => .io n.s) ++ ds.map .val, _, rfl, rfl, Rc, by rw [List.map_map] at p; exact p, fun s v w' as' st sb R' z => ?_⟩
    obtain ⟨ts', rest, rfl, l', p⟩ := z
    have l' : ts'.length = ns.length := by simpa using l'
    refine q s v w' _ st (e1.b.trans sb) (back_ioNd R1 nd I fo hB h1 h2 st sb R' l' fun m t' e => ?_) (by rw [putN_eq]; exact p)
    rw [List.getElem?_append_left (by simpa using (List.getElem?_eq_some_iff.mp e).1), List.getElem?_map, e]; rfl
/-- n0.m(n1, .., data ..): methods of a node's object -/
theorem em_methNd {C : Addr} {m : Str} {S : SpM} {E : XK} (h : EvN K te env fun i s f => ∃ xs, s = .ins C xs ∧ xs.lookup m = none ∧ EvNA K tA env fun qs ds => ((i :: qs.map (·.1))).Nodup ∧ S (.io (.ins C xs) :: (qs.map (fun q => .io q.2.1) ++ ds.map .val)) fun r as' => ∃ t' ts' rest, as' = .io t' :: (ts'.map Sl.io ++ rest) ∧ ts'.length = qs.length ∧ Pm r (putM env ((i, f t') :: (qs.zip ts').map fun q => (q.1.1, q.1.2.2 q.2)))) :
    EvM K (tMeth C m (spM K S) [] E te tA) env Pm := fun en w σ R Q q =>
  h en w σ R _ fun i t s f vr u w1 e1 et hv a p => by
    obtain ⟨xs, rfl, hm, p⟩ := p
    obtain ⟨fs, tr⟩ := (R.grow e1).nodeTR et hv a
    have hu : ∃ b dx vs0, u = .ref b ∧ w1.H b = some (.ins C dx vs0) ∧ vs0.map (·.1) = xs.map (·.1) := by
      cases tr with
      | ins h1 h2 _ => exact ⟨_, _, _, rfl, h1, h2⟩
    obtain ⟨b, dx, vs0, rfl, ha, ek⟩ := hu
    refine ⟨b, dx, vs0, rfl, ha, look_none ek hm, p en w1 σ (R.grow e1) _ fun ns ds vs w2 e2 I r2 p2 => ?_⟩
    obtain ⟨nd, p⟩ := p2
    let n0 : Nd := ⟨i, t, vr, .ins C xs, .ref b, f⟩
    have nd : ((n0 :: ns).map (·.i)).Nodup := by rw [List.map_map] at nd; exact nd
    have I2 : NdsAt env σ w2.H (n0 :: ns) := fun n hn => by
      rcases List.mem_cons.mp hn with z | z
      · subst z; exact ⟨et, hv, a.mono e2.h⟩
      · exact I n z
    obtain ⟨F, R1⟩ := R.grow (e1.trans e2)
    obtain ⟨o, g, fo⟩ := foc_all R1 nd I2
    obtain ⟨w0, hB, h1, h2, Rc⟩ := rel_argsNd R1 nd I2 fo r2
    rw [List.append_nil]
    refine ⟨⟨w0, (n0 :: ns).map (·.u) ++ vs⟩, w2, (n0 :: ns).map (fun n => .io n.s) ++ ds.map .val, _, rfl, rfl, Rc, by rw [List.map_map] at p; exact p, fun s v w' as' st sb R' z => ?_⟩
    obtain ⟨t', ts', rest, rfl, l', p⟩ := z
    have l' : ts'.length = ns.length := by simpa using l'
    refine q s v w' _ st ((e1.trans e2).b.trans sb) (back_ioNd (ts' := t' :: ts') R1 nd I2 fo hB h1 h2 st sb R' (by simpa using l') fun m t'' e => ?_) (by rw [putN_eq]; exact p)
    cases m with
    | zero => simp at e; subst e; rfl
    | succ m =>
      simp at e
      show (ts'.map Sl.io ++ rest)[m]? = _
      rw [List.getElem?_append_left (by simpa using (List.getElem?_eq_some_iff.mp e).1), List.getElem?_map, e]; rfl
/-- a node read as it is -/
theorem ev_nodeT {Pe : Sl → Prop} (h : EvN K te env fun _ s _ => Pe (.brt s)) : EvE K te env Pe := fun en w σ R Q q =>
  h en w σ R _ fun i t s f vr u w1 e1 et hv a p => by
    obtain ⟨fs, tr⟩ := (R.grow e1).nodeTR et hv a
    exact q (.brt s) u w1 e1 p ⟨fs, tr⟩
end
end DL

set_option Elab.async false
set_option linter.all false
set_option maxRecDepth 100000
set_option autoImplicit false
namespace DL
open PySem L2
section
variable {K : PySem.W.Frag} {env : List Sl} {Pp : Post} {w w' w'' : Wd} {te ta tb tr : TE} {tA : TA} {en : En} {P : Sl → Prop} {σ : TSt}
/-! ### displays whose items are trees of one's own -/
def EvOs (K : PySem.W.Frag) (tA : TA) (env : List Sl) (P : List OT → Prop) : Prop := ∀ (en : En) (w : Wd) (σ : TSt), Rel K en w env σ → ∀ Q : List V → Hp → Prop,
  (∀ ts vs fp w', w.le w' → TRs K w'.B w'.H ts vs fp → fp.Nodup → (∀ p ∈ fp, w.H p = none ∧ w'.B p = none) → P ts → Q vs w'.H) → tA σ w.H Q
theorem eos_nil {P : List OT → Prop} (p : P []) : EvOs K tNil env P := fun en w σ R Q q => q [] [] [] w w.rfl' .nil (by simp) (by simp) p
theorem eos_cons {P : List OT → Prop} (h : EvE K te env fun s => ∃ t, (s = .own t ∨ ∃ d, s = .val d ∧ t = .imm d) ∧ EvOs K tA env fun ts => P (t :: ts)) : EvOs K (tCons te tA) env P := fun en w σ R Q q =>
  h en w σ R _ fun s v w1 e1 h1 r1 => by
    obtain ⟨t, h1, h2⟩ := h1
    have hT : ∃ fp, TR K w1.B w1.H t v fp ∧ fp.Nodup ∧ ∀ p ∈ fp, w.H p = none ∧ w1.B p = none := by
      rcases h1 with rfl | ⟨d, rfl, rfl⟩
      · obtain ⟨fp, a, b, c⟩ := r1; exact ⟨fp, a, b, c⟩
      · exact ⟨[], .imm r1, by simp, by simp⟩
    obtain ⟨fp, a, b, c⟩ := hT
    exact h2 en w1 σ (R.grow e1) _ fun ts vs fp2 w2 e2 r2 nd2 no2 p2 => by
      refine q (t :: ts) (v :: vs) (fp ++ fp2) w2 (e1.trans e2) (.cons (a.mono e2.b fun p o _ z => e2.h p o z) r2) (List.nodup_append.mpr ⟨b, nd2, fun x hx y hy e => ?_⟩) (fun p z => ?_) p2
      · subst e
        obtain ⟨o, ho⟩ := a.there x hx
        rw [(no2 x hy).1] at ho; cases ho
      · rcases List.mem_append.mp z with z | z
        · obtain ⟨o, ho⟩ := a.there p z
          exact ⟨(c p z).1, (e2.f p o ho).trans (c p z).2⟩
        · exact ⟨e1.h.free (no2 p z).1, (no2 p z).2⟩
theorem eos_own {P : List OT → Prop} (h : EvE K te env fun s => ∃ t, s = .own t ∧ EvOs K tA env fun ts => P (t :: ts)) : EvOs K (tCons te tA) env P :=
  eos_cons fun en w σ R Q q => h en w σ R Q fun s v w' e p r => q s v w' e (p.imp fun t z => ⟨.inl z.1, z.2⟩) r
theorem eos_val {P : List OT → Prop} (h : EvE K te env fun s => ∃ d, s = .val d ∧ EvOs K tA env fun ts => P (.imm d :: ts)) : EvOs K (tCons te tA) env P :=
  eos_cons fun en w σ R Q q => h en w σ R Q fun s v w' e p r => q s v w' e (let ⟨d, a, b⟩ := p; ⟨_, .inr ⟨d, a, rfl⟩, b⟩) r
/-- [e1, e2, ..], items of one's own -/
theorem ev_lstO (h : EvOs K tA env fun ts => ts.length ≤ 1000 ∧ P (.own (.lst ts))) : EvE K (tLst tA) env P := fun en w σ R Q q =>
  h en w σ R _ fun ts vs fp w1 e1 r1 nd no p1 => by
    obtain ⟨hl, p⟩ := p1
    refine ⟨by rw [← r1.len]; exact Nat.le_of_lt (small1000 hl), fun pp hp => ?_⟩
    refine q _ _ (w1.lay pp (.lst vs) hp) (e1.trans (Wd.le_lay hp)) p ⟨pp :: fp, .lst upd_same (r1.mono (Same.refl _) fun a o _ z => by
      show upd w1.H pp _ a = some o
      rw [upd_ne (ne_of_none z hp)]; exact z), List.nodup_cons.mpr ⟨(fun z => by
      obtain ⟨o, ho⟩ := r1.there pp z
      rw [hp] at ho; cases ho), nd⟩, fun a z => ?_⟩
    rcases List.mem_cons.mp z with z | z
    · subst z
      exact ⟨e1.h.free hp, (show w1.B a = none from Wd.freeB hp)⟩
    · exact ⟨(no a z).1, (no a z).2⟩
/-- {k1: e1, ..}, values of one's own -/
def EvPs (K : PySem.W.Frag) (trs : List (TE × TE)) (env : List Sl) (P : List (Key × OT) → Prop) : Prop := ∀ (en : En) (w : Wd) (σ : TSt), Rel K en w env σ → ∀ Q : List (V × V) → Hp → Prop,
  (∀ (kts : List (Key × OT)) (vs : List (Key × V)) fp w', w.le w' → vs.map (·.1) = kts.map (·.1) → TRs K w'.B w'.H (kts.map (·.2)) (vs.map (·.2)) fp → fp.Nodup → (∀ p ∈ fp, w.H p = none ∧ w'.B p = none) → P kts → Q (vs.map fun kv => (kV kv.1, kv.2)) w'.H) → tPairs trs σ w.H Q
theorem eps_nil {P : List (Key × OT) → Prop} (p : P []) : EvPs K [] env P := fun en w σ R Q q => q [] [] [] w w.rfl' rfl .nil (by simp) (by simp) p
theorem eps_cons {tk tv : TE} {trs : List (TE × TE)} {P : List (Key × OT) → Prop} (h : EvE K tk env fun s0 => ∃ k, s0 = .val (keyD k) ∧ EvE K tv env fun s => ∃ t, (s = .own t ∨ ∃ d, s = .val d ∧ t = .imm d) ∧ EvPs K trs env fun kts => P ((k, t) :: kts)) : EvPs K ((tk, tv) :: trs) env P := fun en w σ R Q q =>
  h en w σ R _ fun s0 x w0 e0 h0 r0 => by
    obtain ⟨k, rfl, h0⟩ := h0
    have := keyD_v r0
    subst this
    exact h0 en w0 σ (R.grow e0) _ fun s v w1 e1 h1 r1 => by
      obtain ⟨t, h1, h2⟩ := h1
      have hT : ∃ fp, TR K w1.B w1.H t v fp ∧ fp.Nodup ∧ ∀ p ∈ fp, w.H p = none ∧ w1.B p = none := by
        rcases h1 with rfl | ⟨d, rfl, rfl⟩
        · obtain ⟨fp, a, b, c⟩ := r1; exact ⟨fp, a, b, fun p z => ⟨e0.h.free (c p z).1, (c p z).2⟩⟩
        · exact ⟨[], .imm r1, by simp, by simp⟩
      obtain ⟨fp, a, b, c⟩ := hT
      exact h2 en w1 σ ((R.grow e0).grow e1) _ fun ts vs fp2 w2 e2 hk r2 nd2 no2 p2 => by
        refine q ((k, t) :: ts) ((k, v) :: vs) (fp ++ fp2) w2 ((e0.trans e1).trans e2) (by simp [hk]) (.cons (a.mono e2.b fun p o _ z => e2.h p o z) r2) (List.nodup_append.mpr ⟨b, nd2, fun x hx y hy e => ?_⟩) (fun p z => ?_) p2
        · subst e
          obtain ⟨o, ho⟩ := a.there x hx
          rw [(no2 x hy).1] at ho; cases ho
        · rcases List.mem_append.mp z with z | z
          · obtain ⟨o, ho⟩ := a.there p z
            exact ⟨(c p z).1, (e2.f p o ho).trans (c p z).2⟩
          · exact ⟨(e0.trans e1).h.free (no2 p z).1, (no2 p z).2⟩
theorem eps_own {tk tv : TE} {trs : List (TE × TE)} {P : List (Key × OT) → Prop} (h : EvE K tk env fun s0 => ∃ k, s0 = .val (keyD k) ∧ EvE K tv env fun s => ∃ t, s = .own t ∧ EvPs K trs env fun kts => P ((k, t) :: kts)) : EvPs K ((tk, tv) :: trs) env P :=
  eps_cons fun en w σ R Q q => h en w σ R Q fun s v w' e p r => q s v w' e (let ⟨k, a, b⟩ := p; ⟨k, a, fun en w σ R Q q => b en w σ R Q fun s v w' e p r => q s v w' e (p.imp fun t z => ⟨.inl z.1, z.2⟩) r⟩) r
theorem eps_val {tk tv : TE} {trs : List (TE × TE)} {P : List (Key × OT) → Prop} (h : EvE K tk env fun s0 => ∃ k, s0 = .val (keyD k) ∧ EvE K tv env fun s => ∃ d, s = .val d ∧ EvPs K trs env fun kts => P ((k, .imm d) :: kts)) : EvPs K ((tk, tv) :: trs) env P :=
  eps_cons fun en w σ R Q q => h en w σ R Q fun s v w' e p r => q s v w' e (let ⟨k, a, b⟩ := p; ⟨k, a, fun en w σ R Q q => b en w σ R Q fun s v w' e p r => q s v w' e (let ⟨d, z, z'⟩ := p; ⟨_, .inr ⟨d, z, rfl⟩, z'⟩) r⟩) r
theorem putK_new {kvs : List (Key × V)} {k : Key} {v : V} (h : k ∉ kvs.map (·.1)) : putK kvs k v = kvs ++ [(k, v)] := by
  unfold putK
  rw [if_neg]
  intro z
  obtain ⟨x, hx, e⟩ := List.any_eq_true.mp z
  have e := of_decide_eq_true e
  exact h (List.mem_map.mpr ⟨x, hx, e⟩)
theorem mergeK_new : ∀ {more kvs : List (Key × V)}, ((kvs ++ more).map (·.1)).Nodup → mergeK kvs more = kvs ++ more
  | [], kvs, _ => by simp [mergeK]
  | (k, v) :: r, kvs, nd => by
    have e : mergeK kvs ((k, v) :: r) = mergeK (putK kvs k v) r := rfl
    have h : k ∉ kvs.map (·.1) := fun z => by
      rw [List.map_append] at nd
      exact (List.nodup_append.mp nd).2.2 k z k (by simp) rfl
    rw [e, putK_new h, mergeK_new (by simpa using nd)]
    simp
theorem ev_dispO {trs : List (TE × TE)} (h : EvPs K trs env fun kts => kts.length ≤ 15 ∧ (kts.map (·.1)).Nodup ∧ P (.own (.dK kts))) : EvE K (tDisp trs) env P := fun en w σ R Q q p hp => by
  have le0 : w.le (w.lay p (.dK []) hp) := Wd.le_lay (o := .dK []) hp
  refine h en (w.lay p (.dK []) hp) σ (R.grow le0) _ fun kts vs fp w2 e2 hk r2 nd no h2 => ?_
  obtain ⟨hl, hn, hP⟩ := h2
  have hpH : w2.H p = some (.dK []) := e2.h p _ upd_same
  have hpB : w2.B p = none := (e2.f p _ upd_same).trans (show w.B p = none from Wd.freeB hp)
  have hll : vs.length = kts.length := by have := congrArg List.length hk; simpa using this
  refine ⟨hpH, vs, rfl, by omega, ?_⟩
  rw [mergeK_new (kvs := []) (by simpa [hk] using hn), List.nil_append]
  have le2 := le0.trans e2
  have hpf : p ∉ fp := fun z => by
    have := (no p z).1
    rw [show (w.lay p (.dK []) hp).H p = some (.dK []) from upd_same] at this
    cases this
  refine q (.own (.dK kts)) (.ref p) (w2.put p (.dK vs) hpB) ⟨le2.b, fun c o z => ?_, le2.f⟩ hP ⟨p :: fp, .dK (vs := vs) upd_same hk (r2.mono (Same.refl _) fun a o za z => ?_), List.nodup_cons.mpr ⟨hpf, nd⟩, fun a ha => ?_⟩
  · show upd w2.H p _ c = some o
    rw [upd_ne (ne_of_none z hp)]
    exact le2.h c o z
  · show upd w2.H p _ a = some o
    rw [upd_ne (fun e => hpf (by rw [← e]; exact za))]; exact z
  · rcases List.mem_cons.mp ha with z | z
    · subst z
      exact ⟨hp, hpB⟩
    · exact ⟨le0.h.free (no a z).1, (no a z).2⟩
/-! ### xs.insert(i, e), xs a variable's flat list -/
theorem wp_insV {i : Nat} (h : ∃ ds, (env[i]? = some (.own (oL ds)) ∨ env[i]? = some (.io (oL ds))) ∧ EvA K tA env fun ss => ∃ (k : Nat) (d : D), ss = [.val (.int (k : Int)), .val d] ∧ ds.length < 1000000 ∧ k ≤ 1000000 ∧ Pp.nx (putS env i (oL (ds.take k ++ [d] ++ ds.drop k)))) :
    Wp K (tDrop (tBM K "list" rIns (tVar i) tA)) env Pp := fun en w σ R D hn _ _ _ => by
  obtain ⟨ds, e, h⟩ := h
  have hv : ∃ v0, σ[i]? = some (some v0) := by
    obtain ⟨F, R⟩ := R
    have hil : i < env.length := by rcases e with e | e <;> exact (List.getElem?_eq_some_iff.mp e).1
    obtain ⟨s, o, q1, q2⟩ := slot_at hil R.len
    rcases e with e | e
    · obtain ⟨v', z, r⟩ := R.sl i _ _ e q2; exact ⟨_, z ▸ q2⟩
    · obtain ⟨⟨v', z, r⟩, _⟩ := R.sl i _ _ e q2; exact ⟨_, z ▸ q2⟩
  obtain ⟨v0, hv⟩ := hv
  obtain ⟨fs, ts⟩ := R.nodeTR e hv .here
  obtain ⟨pp, xs, rfl, _, hp, rs⟩ := ts.oL_inv
  refine ⟨.ref pp, hv, .inl ⟨rfl, _, .inl (.inl hp)⟩, ?_⟩
  refine h en w σ R _ fun ss vs w2 e2 p ry => ?_
  obtain ⟨k, d, rfl, hl, hk, p⟩ := p
  cases ry with
  | @cons _ v1 _ _ q1 ry =>
    cases ry with
    | @cons _ y _ _ q2 ry =>
      cases ry
      cases q1
      have R2 := R.grow e2
      have hp2 := e2.h _ _ hp
      refine ⟨pp, xs, (k : Int), y, rfl, rfl, hp2, Nat.lt_of_lt_of_le (by rw [← rs.len]; exact hl) (by decide), by omega, by omega, ?_⟩
      rw [Int.toNat_natCast]
      obtain ⟨w3, h3, b3, R3⟩ := R2.write (s := oL ds) (s' := oL (ds.take k ++ [d] ++ ds.drop k)) (o := .lst xs) (o' := .lst (xs.take k ++ [y] ++ xs.drop k)) (f := id) e hv .here (fun fs ts nd no => by
        obtain ⟨pp3, zs, e4, e5, hp3, rs3⟩ := ts.oL_inv
        cases e4
        subst e5
        rw [hp2] at hp3
        cases hp3
        exact ⟨by simp, fun H' z1 z2 => ⟨[pp], TR.ofL z1 (((rs3.take k).app (.cons q2 .nil)).app (rs3.drop k)), by simp, fun q z => ⟨(no q z).1, (no q z).2, .inl z⟩⟩⟩)
      rw [← h3]
      exact hn w3 σ _ (e2.b.trans b3) R3 p
/-- enumerate(e), a flat list -/
theorem ei_enumS {Pd : List D → Prop} (h : EvE K te env fun s => ∃ ds, LsS s ds ∧ Pd (enumD 0 ds)) : EvI K true (iEnum K (tCons te tNil)) env Pd := fun en w σ R Q q =>
  h en w σ R _ fun s v w1 e1 h1 r1 => by
    obtain ⟨ds, l, p⟩ := h1
    obtain ⟨pp, xs, rfl, hs, r⟩ := l.ok r1
    exact ⟨pp, xs, rfl, hs, q _ (enumD 0 ds) w1 e1 p (itd_enum (fun w' l => l.h.seq hs) fun w' l => r.mono l.b)⟩
/-! ### for over a list of trees, the body changes the item in place -/
/-- statements that assign no name -/
inductive DrS : TS → Prop
  | nx : DrS tNext
  | drop (te : TE) : DrS (tDrop te)
  | seq {t u : TS} : DrS t → DrS u → DrS (tSeq t u)
theorem DrS.eq {t : TS} (h : DrS t) : ∀ {D1 D2 : Ends} {σ : TSt} {H : Hp}, (∀ H', D1.nx σ H' = D2.nx σ H') → t D1 σ H = t D2 σ H := by
  induction h with
  | nx => intro D1 D2 σ H e; exact e H
  | drop te =>
    intro D1 D2 σ H e
    show te σ H _ = te σ H _
    rw [show (fun (_ : V) (H1 : Hp) => D1.nx σ H1) = fun (_ : V) (H1 : Hp) => D2.nx σ H1 from funext fun _ => funext e]
  | @seq t u _ _ ih1 ih2 =>
    intro D1 D2 σ H e
    exact ih1 (D1 := { D1 with nx := u D1 }) (D2 := { D2 with nx := u D2 }) fun H' => ih2 e
theorem wp_keep {t : TS} (d : DrS t) {N : List Sl → Prop} (h : Wp K t env { nx := N, rt := fun _ _ => False, bk := fun _ => False, ct := fun _ => False }) (R : Rel K en w env σ) {D : Ends}
    (hn : ∀ (w' : Wd) env', Same w.B w'.B → Rel K en w' env' σ → N env' → D.nx σ w'.H) : t D σ w.H := by
  have := h en w σ R { D with nx := fun σ' H' => σ' = σ → D.nx σ' H' } (fun w' σ' env' sb R' n e => by subst e; exact hn w' env' sb R' n) (fun _ _ _ _ _ z => z.elim) (fun _ _ _ _ _ z => z.elim) (fun _ _ _ _ _ _ _ _ _ _ z => z.elim)
  rw [d.eq (D2 := D) fun H' => propext (show (σ = σ → D.nx σ H') ↔ D.nx σ H' from ⟨fun z => z rfl, fun z _ => z⟩)] at this
  exact this
/-- one tree alone, in slot j -/
def aloneS (n j : Nat) (s : OT) : List Sl := (List.replicate n Sl.un).set j (.io s)
theorem alone_rel {n j : Nat} {s : OT} {u : V} {w0 : Wd} (hl : σ.length = n) (hj : σ[j]? = some (some u)) (R : Rel K ⟨w0, [u]⟩ w [.io s] [some u]) : Rel K ⟨w0, (List.replicate (j + 1) u)⟩ w (aloneS n j s) σ := by
  obtain ⟨F, R⟩ := R
  have hjn : j < n := by rw [← hl]; exact (List.getElem?_eq_some_iff.mp hj).1
  obtain ⟨⟨v', z, ow⟩, _⟩ := R.sl 0 _ (some u) rfl rfl
  cases z
  refine ⟨fun k => if k = j then F 0 else [], R.le, by simp [aloneS, hl], by simp [aloneS]; omega, fun k s' o a b => ?_, fun a b p _ _ h1 h2 => ?_⟩
  · unfold aloneS at a
    rw [List.getElem?_set] at a
    by_cases hk : j = k
    · subst hk
      simp [hjn] at a
      subst a
      rw [hj] at b
      cases b
      simp only [if_true]
      exact ⟨⟨u, rfl, ow⟩, by simp [List.getElem?_replicate]⟩
    · rw [if_neg hk, List.getElem?_replicate] at a
      split at a
      · cases a
        show (if k = j then F 0 else []) = []
        rw [if_neg fun z => hk z.symm]
      · cases a
  · by_cases z1 : a = j
    · by_cases z2 : b = j
      · rw [z1, z2]
      · rw [if_neg z2] at h2; cases h2
    · rw [if_neg z1] at h1; cases h1
theorem rel_alone {j : Nat} {s : OT} {u : V} {w0 : Wd} {env2 : List Sl} (hj : σ[j]? = some (some u)) (e : env2[j]? = some (.io s)) (R : Rel K ⟨w0, (List.replicate (j + 1) u)⟩ w env2 σ) : Rel K ⟨w0, [u]⟩ w [.io s, .val .non] [some u, some .non] := by
  obtain ⟨F, R⟩ := R
  obtain ⟨⟨v', z, ow⟩, _⟩ := R.sl j _ _ e hj
  cases z
  refine ⟨fun k => if k = 0 then F j else [], R.le, rfl, by simp, fun k s' o a b => ?_, fun a b p _ _ h1 h2 => ?_⟩
  · match k with
    | 0 => cases a; cases b; exact ⟨⟨u, rfl, ow⟩, rfl⟩
    | 1 => cases a; cases b; exact ⟨rfl, .non, rfl, .non⟩
    | k + 2 => cases a
  · by_cases z1 : a = 0
    · by_cases z2 : b = 0
      · rw [z1, z2]
      · rw [if_neg z2] at h2; cases h2
    · rw [if_neg z1] at h1; cases h1
theorem wp_forO {i j : Nat} (n : Nat) (Inv : Nat → List Sl → Prop) (hij : i ≠ j) {ts : TS} (d : DrS ts) (h0 : ∃ xs, (env[i]? = some (.own (.lst xs)) ∨ env[i]? = some (.io (.lst xs))) ∧ xs.length = n ∧ Inv 0 env)
    (hs : ∀ k env', k < n → Inv k env' → ∃ xs x, (env'[i]? = some (.own (.lst xs)) ∨ env'[i]? = some (.io (.lst xs))) ∧ xs.length = n ∧ xs[k]? = some x ∧ j < env'.length ∧
      Wp K ts (aloneS env'.length j x) { nx := fun env2 => ∃ x', env2[j]? = some (.io x') ∧ Inv (k + 1) ((putS env' i (.lst (xs.set k x'))).set j .un), rt := fun _ _ => False, bk := fun _ => False, ct := fun _ => False })
    (hd : ∀ env', Inv n env' → Pp.nx env') : Wp K (tFor (iSeq K (tVar i)) (gName j) ts) env Pp := fun en w σ R D hn hb hc hr => by
  obtain ⟨xs0, e0, hl0, h0⟩ := h0
  have hv : ∃ v0, σ[i]? = some (some v0) := by
    obtain ⟨F, R⟩ := R
    have hil : i < env.length := by rcases e0 with e | e <;> exact (List.getElem?_eq_some_iff.mp e).1
    obtain ⟨s, o, q1, q2⟩ := slot_at hil R.len
    rcases e0 with e | e
    · obtain ⟨v', z, r⟩ := R.sl i _ _ e q2; exact ⟨_, z ▸ q2⟩
    · obtain ⟨⟨v', z, r⟩, _⟩ := R.sl i _ _ e q2; exact ⟨_, z ▸ q2⟩
  obtain ⟨v0, hv⟩ := hv
  obtain ⟨fs0, tr0⟩ := R.nodeTR e0 hv .here
  cases tr0 with
  | @lst a _ vs0 fp0 hp0 rs0 =>
    refine .inl ⟨.ref a, hv, a, rfl, ⟨vs0, .inl (.inl hp0)⟩, ?_⟩
    refine ⟨fun k m σ' H' => m = n - k ∧ k ≤ n ∧ ∃ w' env' xs, w'.H = H' ∧ Same w.B w'.B ∧ Rel K en w' env' σ' ∧ σ'[i]? = some (some (.ref a)) ∧ (env'[i]? = some (.own (.lst xs)) ∨ env'[i]? = some (.io (.lst xs))) ∧ xs.length = n ∧ Inv k env', ⟨n, by simp, Nat.zero_le _, w, env, xs0, rfl, Same.refl _, R, hv, e0, hl0, h0⟩, ?_⟩
    rintro k m σ' H' ⟨rfl, hk, w', env', xs, rfl, sb, R', hva, ex, hxl, iv⟩
    obtain ⟨fs1, tr1⟩ := R'.nodeTR ex hva .here
    cases tr1 with
    | @lst _ _ vs1 fp1 hpa rs1 =>
      have hvl : vs1.length = n := by rw [← rs1.len]; exact hxl
      by_cases hlt : k < n
      · right
        refine ⟨⟨vs1, vs1[k]'(by omega), .inl (.inl hpa), List.getElem?_eq_getElem _⟩, fun σ2 H2 => ∃ w2 env2 xs, w2.H = H2 ∧ Same w.B w2.B ∧ Rel K en w2 env2 σ2 ∧ σ2[i]? = some (some (.ref a)) ∧ (env2[i]? = some (.own (.lst xs)) ∨ env2[i]? = some (.io (.lst xs))) ∧ xs.length = n ∧ Inv (k + 1) env2, fun σ2 H2 ⟨w2, env2, xs, q1, q2, q3, q4, q5, q6, q7⟩ => ⟨n - (k + 1), by omega, rfl, hlt, w2, env2, xs, q1, q2, q3, q4, q5, q6, q7⟩, fun x0 H2 y => ?_⟩
        obtain ⟨rfl, y⟩ := y
        have hx0 := y vs1 (.inl (.inl hpa))
        obtain ⟨xs', x, ex', hxl', hxk, hjl, body⟩ := hs k env' hlt iv
        have exx : xs' = xs := by
          rcases ex with e | e <;> rcases ex' with e' | e' <;> (rw [e] at e'; first | (cases e'; rfl) | cases e')
        subst exx
        -- the item as a node
        let nd : Nd := ⟨i, .lst xs', .ref a, x, x0, fun s' => .lst (xs'.set k s')⟩
        have I : NdsAt env' σ' w'.H [nd] := fun n' hn' => by
          obtain rfl : n' = nd := by simpa using hn'
          exact ⟨ex, hva, .lst hpa hxk hx0 .here⟩
        obtain ⟨F, R1⟩ := R'
        have ndn : ([nd].map (·.i)).Nodup := by simp
        obtain ⟨o, g, fo⟩ := foc_all R1 ndn I
        obtain ⟨w0, hB, h1, h2, Rc⟩ := rel_argsNd (vs := []) (ds := []) R1 ndn I fo .nil
        have hlen := R1.len
        have hsj : (σ'.set j (some x0))[j]? = some (some x0) := by rw [List.getElem?_set_self (by omega)]
        have Ra := alone_rel (n := env'.length) (j := j) (σ := σ'.set j (some x0)) (s := x) (u := x0) (by simp [hlen]) hsj Rc
        refine wp_keep d body Ra fun w3 env3 s3 R3 p => ?_
        obtain ⟨x', e3, p⟩ := p
        have Rb := rel_alone hsj e3 R3
        have R4 := back_ioNd (ts' := [x']) (vs := []) (s := .val .non) (v := .non) (as' := [.io x']) R1 ndn I fo hB h1 h2 (.val _) s3 Rb rfl (fun m t' e => by
          cases m with
          | zero => simp at e; subst e; rfl
          | succ m => simp at e)
        have hpl : (putN env' [nd] [x']).length = env'.length := putM_len _ _
        have R5 := (Rel.pop (j := 0) (.val _) R4 (by rw [hpl]; exact R1.an)).2
        have R6 := R5.setUn (i := j) (v := some x0)
        have e6 : (putN env' [nd] [x']).set j Sl.un = (putS env' i (.lst (xs'.set k x'))).set j Sl.un := rfl
        rw [e6] at R6
        refine ⟨w3, _, xs'.set k x', rfl, sb.trans s3, R6, by rw [List.getElem?_set_ne (Ne.symm hij)]; exact hva, ?_, by simpa using hxl, p⟩
        have hil : i < env'.length := by rcases ex with e | e <;> exact (List.getElem?_eq_some_iff.mp e).1
        rw [List.getElem?_set_ne (Ne.symm hij)]
        rcases ex with e | e
        · left; rw [putS_own e, List.getElem?_set_self hil]
        · right; rw [putS_io e, List.getElem?_set_self hil]
      · left
        have e : k = n := by omega
        subst e
        exact ⟨⟨vs1, .inl (.inl hpa), by omega⟩, hn w' σ' env' sb R' (hd env' iv)⟩
end
end DL

set_option Elab.async false
set_option linter.all false
set_option maxRecDepth 100000
set_option autoImplicit false
namespace DL
open PySem L2
section
variable {K : PySem.W.Frag} {env : List Sl} {Pp : Post} {w w' : Wd} {te ta tb tr : TE} {tt : TT} {tA : TA} {en : En} {Pb : Bool → List Sl → Prop} {P : Sl → Prop}
/-! ### tests with effects: not, truth of a bool -/
theorem eft_not (h : EvFT K tt env fun b env' => Pb (!b) env') : EvFT K (tNot tt) env Pb := fun en w σ R Q q =>
  h en w σ R _ fun b w1 env' sb R1 p => q (!b) w1 env' sb R1 p
theorem eft_tr (h : EvF K te env fun d env' => ∃ b, d = .bl b ∧ Pb b env') : EvFT K (tTruth K te) env Pb := fun en w σ R Q q =>
  h en w σ R _ fun d v w1 env' sb r1 R1 p => by
    obtain ⟨b, rfl, p⟩ := p
    cases r1
    exact ⟨b, rfl, q b w1 env' sb R1 p⟩
/-- e["k"], a dict's tree read -/
theorem x_dgetS {s : Sl} {k : Str} (h : ∃ xs, TdS s xs ∧ ∃ c, getO xs (.inr k) = some c ∧ P (chS c)) : RvP K rDG s (.val (.str k)) P := let ⟨xs, a, c, b, d⟩ := h; x_dget (k := .inr k) rfl ⟨xs, c, a, b, d⟩
/-- t["k"], t a parameter's dict -/
theorem es_dgS {tb : TE} {k : Str} {Po : OT → Prop} (h : EvS K tb env fun t => ∃ xs c, t = .dK xs ∧ getO xs (.inr k) = some c ∧ Po c) : EvS K (tOp rDG tb (tC (V.str k))) env Po := fun en w σ R Q q =>
  h en w σ R _ fun t v w1 e1 r1 p => by
    obtain ⟨xs, c, rfl, hc, p⟩ := p
    obtain ⟨f, r1⟩ := r1
    cases r1 with
    | @dK pp _ vs fp hp ek rs =>
      obtain ⟨u, fs, j, e2, t2, _, _⟩ := dget_ok ek rs hc
      exact ⟨pp, u, rfl, .inl ⟨vs, .inr k, .inl ((R.le.trans e1).h _ _ hp), rfl, e2.symm⟩, q c u w1 e1 ⟨fs, t2⟩ p⟩
/-- name = e, e a part of a parameter's tree -/
theorem wp_asgS {i : Nat} (h : EvS K te env fun t => Pp.nx (env.set i (.brt t))) : Wp K (tAsg te (gName i)) env Pp := fun en w σ R D hn _ _ _ =>
  h en w σ R _ fun t v w1 e1 r1 p => by
    obtain ⟨f, r1⟩ := r1
    refine hn w1 _ _ e1.b ?_ p
    obtain ⟨F, R1⟩ := R.grow e1
    exact ⟨_, R1.upd (fp := []) R1.le (fun _ _ _ _ _ z => z) ⟨rfl, v, f, rfl, r1⟩ fun _ _ _ _ z => by simp at z⟩
/-- a variable that holds an item of a tree -/
theorem x_ch {i : Nat} (h : ∃ t, env[i]? = some (chS t) ∧ P (chS t)) : EvE K (tVar i) env P := by
  obtain ⟨t, e, p⟩ := h
  cases t
  case imm d => exact x_val ⟨_, e, p⟩
  all_goals exact x_brt ⟨_, e, p⟩
theorem co_ch (t : OT) : Co (chS t) (chS t) := by
  cases t <;> first | exact .val | exact .brt
/-- an item of a list, any -/
theorem x_ixAny {s : Sl} {ds : List D} {k : Int} (l : LsS s ds) (h0 : 0 ≤ k) (h1 : k < ds.length) (p : ∀ d ∈ ds, P (.val d)) : RvP K (rIx K) s (.val (.int k)) P := by
  have e : ds[k.toNat]? = some (ds[k.toNat]'(by omega)) := List.getElem?_eq_getElem _
  exact sixL l (atI_of h0 e) (p _ (List.getElem_mem _))
end
end DL

set_option Elab.async false
set_option linter.all false
set_option maxRecDepth 100000
set_option autoImplicit false
set_option maxHeartbeats 4000000

namespace Law
open PySem L2 DL

def topS (i : Nat) : Stmt := PySem.Challenge.pw_oathcoin_k68_carriers.main.body.getD i (.Pass ⟨0, 0, 0, 0⟩)
/-! ### the same plain value -/
inductive Pn : Nat → D → Prop
  | non (n : Nat) : Pn (n + 1) .non
  | int (n : Nat) (i : Int) : Pn (n + 1) (.int i)
  | str (n : Nat) (x : Str) : Pn (n + 1) (.str x)
  | tup (n : Nat) (ds : List D) : ds.length ≤ 1000000 → (∀ d ∈ ds, Pn n d) → Pn (n + 1) (.tup ds)
  | lst (n : Nat) (ds : List D) : ds.length ≤ 1000000 → (∀ d ∈ ds, Pn n d) → Pn (n + 1) (.lst ds)
theorem Pn.up {n : Nat} {d : D} (h : Pn n d) : Pn (n + 1) d := by
  induction h with
  | non n => exact .non _
  | int n i => exact .int _ i
  | str n x => exact .str _ x
  | tup n ds hl _ ih => exact .tup _ ds hl ih
  | lst n ds hl _ ih => exact .lst _ ds hl ih
theorem Pn.le {n m : Nat} {d : D} (h : Pn n d) (e : n ≤ m) : Pn m d := by
  induction m with
  | zero =>
    have : n = 0 := by omega
    subst this; exact h
  | succ m ih =>
    by_cases z : n = m + 1
    · subst z; exact h
    · exact (ih (by omega)).up
/-- a tree that is a plain value -/
inductive Sm : Nat → OT → D → Prop
  | imm {n : Nat} {d : D} : Pn n d → Sm n (.imm d) d
  | lst {n : Nat} {xs : List OT} {ds : List D} : xs.length = ds.length → ds.length ≤ 1000000 → (∀ (i : Nat) x d, xs[i]? = some x → ds[i]? = some d → Sm n x d) → Sm (n + 1) (.lst xs) (.lst ds)
theorem Sm.up {n : Nat} {t : OT} {d : D} (h : Sm n t d) : Sm (n + 1) t d := by
  induction h with
  | imm h => exact .imm h.up
  | lst e hl _ ih => exact .lst e hl ih
theorem Sm.pn {n : Nat} {t : OT} {d : D} (h : Sm n t d) : Pn n d := by
  induction h with
  | imm h => exact h
  | @lst n xs ds e hl _ ih =>
    refine .lst n ds hl fun d hd => ?_
    obtain ⟨i, hi⟩ := List.getElem?_of_mem hd
    have hx : i < xs.length := by rw [e]; exact (List.getElem?_eq_some_iff.mp hi).1
    exact ih i _ d (List.getElem?_eq_getElem hx) hi
theorem sm_oL {n : Nat} {ds : List D} (hl : ds.length ≤ 1000000) (h : ∀ d ∈ ds, Pn n d) : Sm (n + 1) (oL ds) (.lst ds) :=
  .lst (by simp) hl fun i x d e1 e2 => by
    rw [List.getElem?_map, e2] at e1
    cases e1
    exact .imm (h d (List.mem_of_getElem? e2))
theorem sm_ty {n : Nat} {t : OT} {d : D} (h : Sm n t d) : tyS (chS t) = tyD d := by
  cases h with
  | imm h => rfl
  | lst _ _ _ => rfl
section
variable {K : PySem.W.Frag} {P : Sl → Prop}
theorem sm_isN {n : Nat} {t : OT} {d : D} (h : Sm n t d) (p : P (.val (.bl (isNon d)))) : RvP K rIsN0 (chS t) (.val .non) P := by
  cases h with
  | imm h => exact rv_isN p
  | lst _ _ _ =>
    intro w wx x y _ r1 r2 Q q
    cases r2
    refine ⟨rfl, ?_⟩
    obtain ⟨f, r1⟩ := r1
    cases r1
    exact q _ _ wx wx.rfl' p (.bl _)
theorem sm_isNF {n : Nat} {t : OT} {d : D} (h : Sm n t d) (hd : DL.isNon d = false) (p : P (.val (.bl false))) : RvP K rIsN0 (chS t) (.val .non) P := sm_isN h (by rw [hd]; exact p)
theorem rv_isNF {d : D} (hd : DL.isNon d = false) (p : P (.val (.bl false))) : RvP K rIsN0 (.val d) (.val .non) P := rv_isN (by rw [hd]; exact p)
theorem rv_isNT {d : D} (hd : DL.isNon d = true) (p : P (.val (.bl true))) : RvP K rIsN0 (.val d) (.val .non) P := rv_isN (by rw [hd]; exact p)
theorem sm_len {n : Nat} {t : OT} {d : D} {ds : List D} (h : Sm n t d) (hd : d = .tup ds ∨ d = .lst ds) (p : P (.val (.int ds.length))) : RaP K (rLenG K) [chS t] P := by
  cases h with
  | imm h =>
    rcases hd with rfl | rfl
    · exact ra_lenT p
    · exact ra_lenL .val p
  | lst e _ _ =>
    rcases hd with hd | hd
    · cases hd
    · cases hd
      exact ra_lenTl .brt (by rw [e]; exact p)
theorem sm_ix {n : Nat} {t : OT} {d : D} {ds : List D} {k : Nat} (h : Sm (n + 1) t d) (hd : d = .tup ds ∨ d = .lst ds) (hk : k < ds.length) (p : ∀ c, Sm n c (ds[k]'hk) → P (chS c)) : RvP K (rIx K) (chS t) (.val (.int (k : Int))) P := by
  have e0 : ds[k]? = some (ds[k]'hk) := List.getElem?_eq_getElem hk
  cases h with
  | imm h =>
    have hm : ds[k]'hk ∈ ds := List.getElem_mem hk
    rcases hd with rfl | rfl
    · cases h with
      | tup _ _ _ h => exact sixT (atI_nat e0) (p (.imm _) (.imm (h _ hm)))
    · cases h with
      | lst _ _ _ h => exact sixL .val (atI_nat e0) (p (.imm _) (.imm (h _ hm)))
  | @lst _ xs _ e _ h =>
    rcases hd with hd | hd
    · cases hd
    · cases hd
      have hx : xs[k]? = some (xs[k]'(by omega)) := List.getElem?_eq_getElem _
      exact sixTl .brt (atI_nat hx) (p _ (h k _ _ hx e0))
theorem kk_ls : kitB "list" "str" = some false := by decide +kernel
theorem kk_li : kitB "list" "int" = some false := by decide +kernel
theorem sm_isi {n : Nat} {t : OT} {d : D} {m k : String} {b : Bool} (h : Sm n t d) (e : tyD d = some m) (hk : kitB m k = some b) (p : P (.val (.bl b))) : RaP K (rIsiG K) [chS t, .val (.ty k)] P :=
  x_isiE ⟨_, _, (sm_ty h).trans e, hk, p⟩
theorem sm_isiE {n : Nat} {t : OT} {d : D} {k : String} (h : Sm n t d) (p : ∃ m b, tyD d = some m ∧ kitB m k = some b ∧ P (.val (.bl b))) : RaP K (rIsiG K) [chS t, .val (.ty k)] P :=
  let ⟨_, _, e, hk, p⟩ := p; sm_isi h e hk p
theorem d_eqNil {P : Sl → Prop} (p : P (.val (.bl true))) : RvP K (rEqG K) (.own (oL [])) (.own (oL [])) P :=
  d_eqD (d := .lst []) (e := .lst []) 1 1 ⟨_, rfl, rfl⟩ ⟨_, rfl, rfl⟩ (.lst 0 _ (by simp)) (.lst 0 _ (by simp)) (by decide) (by decide) (by
    rw [show eqD (.lst []) (.lst []) = true from (eqD_iff (.lst 0 _ (by simp)) (.lst 0 _ (by simp))).mpr rfl]
    exact p)
end
/-! ### carriers -/
structure Cr where
  nm : D
  am : Int
  fr : Option Int
  tk : Option Int
def encC (c : Cr) : D := .tup [c.nm, .int c.am, oi c.fr, oi c.tk]
theorem pn_oi {n : Nat} (o : Option Int) : Pn (n + 1) (oi o) := by
  cases o
  · exact .non _
  · exact .int _ _
theorem pn_C {c : Cr} (h : Pn 3 c.nm) : Pn 4 (encC c) := .tup 3 _ (by simp) fun d hd => by
  simp only [List.mem_cons, List.not_mem_nil, or_false] at hd
  rcases hd with rfl | rfl | rfl | rfl
  · exact h
  · exact .int _ _
  · exact pn_oi _
  · exact pn_oi _
/-- the indexes of the carriers for which f says true -/
def idxs (f : Cr → Bool) (cs : List Cr) : List Int := ((List.range cs.length).filter fun k => (cs[k]?).any f).map fun k : Nat => (k : Int)
theorem idxs_mem {f : Cr → Bool} {cs : List Cr} {i : Int} : i ∈ idxs f cs ↔ ∃ (k : Nat) (c : Cr), i = k ∧ cs[k]? = some c ∧ f c = true := by
  unfold idxs
  constructor
  · intro h
    obtain ⟨k, hk, rfl⟩ := List.mem_map.mp h
    obtain ⟨_, h2⟩ := List.mem_filter.mp hk
    cases e : cs[k]? with
    | none => rw [e] at h2; cases h2
    | some c => rw [e] at h2; exact ⟨k, c, rfl, e, h2⟩
  · rintro ⟨k, c, rfl, e, h⟩
    exact List.mem_map.mpr ⟨k, List.mem_filter.mpr ⟨List.mem_range.mpr (List.getElem?_eq_some_iff.mp e).1, by rw [e]; exact h⟩, rfl⟩
theorem idxs_len {f : Cr → Bool} {cs : List Cr} : (idxs f cs).length ≤ cs.length := by
  unfold idxs
  rw [List.length_map]
  have := List.length_filter_le (fun k => (cs[k]?).any f) (List.range cs.length)
  simpa using this
theorem idxs_sorted {f : Cr → Bool} {cs : List Cr} : (idxs f cs).Pairwise (· < ·) := by
  unfold idxs
  rw [List.pairwise_map]
  refine List.Pairwise.sublist List.filter_sublist ?_
  exact (List.pairwise_lt_range (n := cs.length)).imp fun h => by omega
theorem idxs_nodup {f : Cr → Bool} {cs : List Cr} : (idxs f cs).Nodup := idxs_sorted.imp fun h z => by omega
theorem idxs_srtd {f : Cr → Bool} {cs : List Cr} {l : List Int} (nd : l.Nodup) (h : ∀ k, k ∈ l ↔ k ∈ idxs f cs) : srtd l = idxs f cs :=
  (srt_eq (perm_nd idxs_nodup nd fun k => (h k).symm) (idxs_sorted.imp fun h => Int.le_of_lt h)).symm
theorem idxs_snoc {f : Cr → Bool} {cs : List Cr} {c : Cr} : idxs f (cs ++ [c]) = idxs f cs ++ (if f c then [(cs.length : Int)] else []) := by
  unfold idxs
  rw [List.length_append, List.length_singleton, List.range_succ, List.filter_append, List.map_append]
  congr 1
  · congr 1
    refine List.filter_congr fun k hk => ?_
    rw [List.getElem?_append_left (List.mem_range.mp hk)]
  · have e : (cs ++ [c])[cs.length]? = some c := by simp
    cases hf : f c with
    | true => simp [hf]
    | false => simp [hf]
theorem idxs_set {f : Cr → Bool} {cs : List Cr} {i : Nat} {c c' : Cr} (e : cs[i]? = some c) (h : f c' = f c) : idxs f (cs.set i c') = idxs f cs := by
  unfold idxs
  rw [List.length_set]
  congr 1
  refine List.filter_congr fun k hk => ?_
  rw [List.getElem?_set]
  by_cases hi : i = k
  · subst hi
    have := (List.getElem?_eq_some_iff.mp e).1
    have z : cs[i] = c := (List.getElem?_eq_some_iff.mp e).2
    simp [this, h, z]
  · rw [if_neg hi]
theorem idxs_set_mem {f : Cr → Bool} {cs : List Cr} {i : Nat} {c c' : Cr} (e : cs[i]? = some c) (h0 : f c = false) (h1 : f c' = true) (x : Int) : x ∈ idxs f (cs.set i c') ↔ x = i ∨ x ∈ idxs f cs := by
  rw [idxs_mem, idxs_mem]
  have hi := (List.getElem?_eq_some_iff.mp e).1
  constructor
  · rintro ⟨k, d, rfl, e2, h2⟩
    rw [List.getElem?_set] at e2
    by_cases hk : i = k
    · left; omega
    · rw [if_neg hk] at e2
      exact .inr ⟨k, d, rfl, e2, h2⟩
  · rintro (rfl | ⟨k, d, rfl, e2, h2⟩)
    · exact ⟨i, c', rfl, by rw [List.getElem?_set_self hi], h1⟩
    · refine ⟨k, d, rfl, ?_, h2⟩
      rw [List.getElem?_set]
      by_cases hk : i = k
      · subst hk
        rw [e] at e2; cases e2
        rw [h0] at h2; cases h2
      · rw [if_neg hk]; exact e2
theorem idxs_not {f : Cr → Bool} {cs : List Cr} {i : Nat} {c : Cr} (e : cs[i]? = some c) (h0 : f c = false) : (i : Int) ∉ idxs f cs := fun z => by
  obtain ⟨k, d, h1, h2, h3⟩ := idxs_mem.mp z
  have : k = i := by omega
  subst this
  rw [e] at h2; cases h2
  rw [h0] at h3; cases h3
/-- a lineage's stations, told by the carriers -/
structure LinOk (cs : List Cr) (many : Nat) (ins outs : List (List Int)) : Prop where
  li : ins.length = many
  lo : outs.length = many
  i : ∀ (s : Nat) l, ins[s]? = some l → l.Nodup ∧ ∀ k, k ∈ l ↔ k ∈ idxs (fun c => c.tk == some (s : Int)) cs
  o : ∀ (s : Nat) l, outs[s]? = some l → l = idxs (fun c => c.fr == some (s : Int)) cs
  nm : ∀ c ∈ cs, Pn 3 c.nm
  rg : ∀ c ∈ cs, (∀ x, c.fr = some x → 0 ≤ x ∧ x < many) ∧ ∀ x, c.tk = some x → 0 ≤ x ∧ x < many
theorem LinOk.nil : LinOk [] 0 [] [] := ⟨rfl, rfl, fun s l h => (by simp at h), fun s l h => (by simp at h), fun c h => (by cases h), fun c h => (by cases h)⟩
theorem idxs_empty {f : Cr → Bool} {cs : List Cr} (h : ∀ c ∈ cs, f c = false) : idxs f cs = [] := by
  refine List.eq_nil_iff_forall_not_mem.mpr fun x hx => ?_
  obtain ⟨k, c, _, e, hf⟩ := idxs_mem.mp hx
  rw [h c (List.mem_of_getElem? e)] at hf
  cases hf
theorem LinOk.station {cs : List Cr} {many : Nat} {ins outs : List (List Int)} (h : LinOk cs many ins outs) : LinOk cs (many + 1) (ins ++ [[]]) (outs ++ [[]]) := by
  have et : idxs (fun c => c.tk == some (many : Int)) cs = [] := idxs_empty fun c hc => by
    have := (h.rg c hc).2
    cases e : c.tk with
    | none => rfl
    | some x =>
      have := this x e
      have : x ≠ (many : Int) := by omega
      simp [this]
  have em : idxs (fun c => c.fr == some (many : Int)) cs = [] := idxs_empty fun c hc => by
    have := (h.rg c hc).1
    cases e : c.fr with
    | none => rfl
    | some x =>
      have := this x e
      have : x ≠ (many : Int) := by omega
      simp [this]
  refine ⟨by simp [h.li], by simp [h.lo], fun s l e => ?_, fun s l e => ?_, h.nm, fun c hc => ⟨fun x hx => ?_, fun x hx => ?_⟩⟩
  · by_cases hs : s < ins.length
    · rw [List.getElem?_append_left hs] at e; exact h.i s l e
    · rw [List.getElem?_append_right (by omega)] at e
      have hs2 : s - ins.length = 0 := by
        have := (List.getElem?_eq_some_iff.mp e).1
        simp at this; omega
      rw [hs2] at e
      cases e
      have : s = many := by have := h.li; omega
      subst this
      exact ⟨by simp, fun k => by rw [et]⟩
  · by_cases hs : s < outs.length
    · rw [List.getElem?_append_left hs] at e; exact h.o s l e
    · rw [List.getElem?_append_right (by omega)] at e
      have hs2 : s - outs.length = 0 := by
        have := (List.getElem?_eq_some_iff.mp e).1
        simp at this; omega
      rw [hs2] at e
      cases e
      have : s = many := by have := h.lo; omega
      subst this
      exact em.symm
  · have := (h.rg c hc).1 x hx; omega
  · have := (h.rg c hc).2 x hx; omega
/-- a carrier from outside -/
theorem LinOk.put0 {cs : List Cr} {many : Nat} {ins outs : List (List Int)} (h : LinOk cs many ins outs) {nm : D} {am : Int} (hn : Pn 3 nm) : LinOk (cs ++ [⟨nm, am, none, none⟩]) many ins outs := by
  refine ⟨h.li, h.lo, fun s l e => ?_, fun s l e => ?_, fun c hc => ?_, fun c hc => ?_⟩
  · rw [idxs_snoc]; simpa using h.i s l e
  · rw [idxs_snoc]; simpa using h.o s l e
  · rcases List.mem_append.mp hc with z | z
    · exact h.nm c z
    · obtain rfl : c = _ := by simpa using z
      exact hn
  · rcases List.mem_append.mp hc with z | z
    · exact h.rg c z
    · obtain rfl : c = _ := by simpa using z
      exact ⟨fun x z => (nomatch z), fun x z => (nomatch z)⟩
theorem LinOk.put1 {cs : List Cr} {many : Nat} {ins outs : List (List Int)} (h : LinOk cs many ins outs) {nm : D} {am : Int} {m : Nat} {l0 : List Int} (hn : Pn 3 nm) (e0 : outs[m]? = some l0) : LinOk (cs ++ [⟨nm, am, some (m : Int), none⟩]) many ins (outs.set m (l0 ++ [(cs.length : Int)])) := by
  have hm := (List.getElem?_eq_some_iff.mp e0).1
  have hlo := h.lo
  refine ⟨h.li, by simpa using h.lo, fun s l e => ?_, fun s l e => ?_, fun c hc => ?_, fun c hc => ?_⟩
  · rw [idxs_snoc]; simpa using h.i s l e
  · rw [idxs_snoc]
    rw [List.getElem?_set] at e
    by_cases hs : m = s
    · subst hs
      simp [hm] at e
      subst e
      rw [h.o m l0 e0]
      simp
    · rw [if_neg hs] at e
      have hs' : ¬ ((m : Int) = (s : Int)) := by omega
      rw [h.o s l e]
      simp [hs']
  · rcases List.mem_append.mp hc with z | z
    · exact h.nm c z
    · obtain rfl : c = _ := by simpa using z
      exact hn
  · rcases List.mem_append.mp hc with z | z
    · exact h.rg c z
    · obtain rfl : c = _ := by simpa using z
      refine ⟨fun x z => ?_, fun x z => (nomatch z)⟩
      cases z
      omega
theorem LinOk.enter {cs : List Cr} {many : Nat} {ins outs : List (List Int)} (h : LinOk cs many ins outs) {i m : Nat} {c : Cr} {l0 : List Int} (e : cs[i]? = some c) (et : c.tk = none) (e0 : ins[m]? = some l0) : LinOk (cs.set i ⟨c.nm, c.am, c.fr, some (m : Int)⟩) many (ins.set m (l0 ++ [(i : Int)])) outs := by
  have hm := (List.getElem?_eq_some_iff.mp e0).1
  have hli := h.li
  have hc := List.mem_of_getElem? e
  refine ⟨by simpa using h.li, h.lo, fun s l e1 => ?_, fun s l e1 => ?_, fun d hd => ?_, fun d hd => ?_⟩
  · rw [List.getElem?_set] at e1
    by_cases hs : m = s
    · subst hs
      simp [hm] at e1
      subst e1
      obtain ⟨n0, h0⟩ := h.i m l0 e0
      have hf : (c.tk == some (m : Int)) = false := by rw [et]; rfl
      have hi : (i : Int) ∉ l0 := fun z => idxs_not (f := fun c => c.tk == some (m : Int)) e hf ((h0 _).mp z)
      refine ⟨List.nodup_append.mpr ⟨n0, by simp, fun a ha b hb q => ?_⟩, fun k => ?_⟩
      · obtain rfl : b = (i : Int) := by simpa using hb
        exact hi (q ▸ ha)
      · rw [idxs_set_mem (f := fun c => c.tk == some (m : Int)) e hf (by simp), List.mem_append, h0 k]
        simp [or_comm]
    · rw [if_neg hs] at e1
      rw [idxs_set (f := fun c => c.tk == some (s : Int)) e (by
        have hs' : ¬ ((m : Int) = (s : Int)) := by omega
        simp [et, hs'])]
      exact h.i s l e1
  · rw [idxs_set (f := fun c => c.fr == some (s : Int)) (c' := ⟨c.nm, c.am, c.fr, some (m : Int)⟩) e rfl]
    exact h.o s l e1
  · rcases List.mem_or_eq_of_mem_set hd with z | z
    · exact h.nm d z
    · subst z; exact h.nm c hc
  · rcases List.mem_or_eq_of_mem_set hd with z | z
    · exact h.rg d z
    · subst z
      refine ⟨(h.rg c hc).1, fun x z => ?_⟩
      cases z
      omega
/-! ### objects -/
/-- a lineage -/
abbrev linR (C : Addr) (c i o : OT) : OT := .ins C [("_carriers", c), ("_ins", i), ("_outs", o)]
def intL (x : List Int) : OT := oL (x.map .int)
def linO (C : Addr) (cs : List Cr) (ins outs : List (List Int)) : OT := linR C (oL (cs.map encC)) (.lst (ins.map intL)) (.lst (outs.map intL))
theorem cr_set {cs : List Cr} {i : Nat} {c : Cr} : OT.lst (((cs.map encC).map OT.imm).set i (.imm (encC c))) = oL ((cs.set i c).map encC) := by
  unfold oL
  rw [List.map_set, List.map_set]
theorem int_set {ins : List (List Int)} {m : Nat} {l : List Int} : (ins.map intL).set m (intL l) = (ins.set m l).map intL := by rw [List.map_set]
theorem intL_snoc {l : List Int} {i : Int} : oL (l.map D.int ++ [.int i]) = intL (l ++ [i]) := by simp [intL]
/-- the law's own lists -/
abbrev bookR (r m : OT) : OT := .dK [(.inr (Str.ofString "rows"), r), (.inr (Str.ofString "many"), m)]
def bookO (cs : List Cr) (many : Nat) : OT := bookR (oL (cs.map encC)) (.imm (.int (many : Int)))
section
variable {K : PySem.W.Frag} {P : Sl → Prop} {env : List Sl} {Pn : Nat → OT → (OT → OT) → Prop}
theorem bk_rows {cs : List Cr} {many : Nat} (p : P (.brt (oL (cs.map encC)))) : RvP K rDG (.brt (bookO cs many)) (.val (.str (Str.ofString "rows"))) P :=
  x_dgetS ⟨_, .brt, oL (cs.map encC), rfl, p⟩
theorem bk_many {cs : List Cr} {many : Nat} (p : P (.val (.int (many : Int)))) : RvP K rDG (.brt (bookO cs many)) (.val (.str (Str.ofString "many"))) P :=
  x_dgetS ⟨_, .brt, .imm (.int (many : Int)), rfl, p⟩
theorem bk_rowsN {i : Nat} {cs : List Cr} {many : Nat} (e : env[i]? = some (.io (bookO cs many))) (p : Pn i (oL (cs.map encC)) (fun x => bookR x (.imm (.int (many : Int))))) : EvN K (tOp rDG (tVar i) (tC (V.str (Str.ofString "rows")))) env Pn :=
  en_dK (en_var (.inr e) ⟨_, rfl, ev_str ⟨.inr (Str.ofString "rows"), rfl, oL (cs.map encC), rfl, fun j ej => by
    match j, ej with
    | 0, _ => exact p
    | 1, ej =>
      have e1 := congrArg Prod.fst (Option.some.inj ej)
      exact absurd (show (Sum.inr (Str.ofString "many") : Key) = Sum.inr (Str.ofString "rows") from e1) (by decide)⟩⟩)
theorem bk_rowsNE {i : Nat} (h : ∃ cs many, env[i]? = some (.io (bookO cs many)) ∧ Pn i (oL (cs.map encC)) (fun x => bookR x (.imm (.int (many : Int))))) : EvN K (tOp rDG (tVar i) (tC (V.str (Str.ofString "rows")))) env Pn := let ⟨_, _, e, p⟩ := h; bk_rowsN e p
theorem enc_0 {c : Cr} (p : P (.val c.nm)) : RvP K (rIx K) (.val (encC c)) (.val (.int 0)) P := x_ixT ⟨_, rfl, p⟩
theorem enc_1 {c : Cr} (p : P (.val (.int c.am))) : RvP K (rIx K) (.val (encC c)) (.val (.int 1)) P := x_ixT ⟨_, rfl, p⟩
theorem enc_2 {c : Cr} (p : P (.val (oi c.fr))) : RvP K (rIx K) (.val (encC c)) (.val (.int 2)) P := x_ixT ⟨_, rfl, p⟩
theorem enc_3 {c : Cr} (p : P (.val (oi c.tk))) : RvP K (rIx K) (.val (encC c)) (.val (.int 3)) P := x_ixT ⟨_, rfl, p⟩
theorem d_ixMem {s : Sl} {ns : List Int} {v : Int} (l : LsS s (ns.map D.int)) (h : 0 < ns.length) (p : ∀ x ∈ ns, P (.val (.int x))) : RvP K (rIx K) s (.val (.int (v % (ns.length : Int)))) P := by
  have h0 := Int.emod_nonneg v (b := (ns.length : Int)) (by omega)
  have h1 := Int.emod_lt_of_pos v (b := (ns.length : Int)) (by omega)
  refine x_ixAny l h0 (by rw [List.length_map]; exact h1) fun d hd => ?_
  obtain ⟨x, hx, rfl⟩ := List.mem_map.mp hd
  exact p x hx
theorem bk_snoc {cs : List Cr} {c : Cr} {many : Nat} : bookR (oL (cs.map encC ++ [encC c])) (.imm (.int (many : Int))) = bookO (cs ++ [c]) many := by
  unfold bookO
  rw [List.map_append]
  rfl
end
theorem enum_idx {α : Type} (enc : α → D) (xs : List α) : enumD 0 (xs.map enc) = (List.range xs.length).map fun k => .tup [.int (k : Int), ((xs[k]?).map enc).getD .non] := by
  apply List.ext_getElem?
  intro i
  rw [enumD_get, List.getElem?_map, List.getElem?_map]
  by_cases hi : i < xs.length
  · rw [List.getElem?_range hi, List.getElem?_eq_getElem hi]
    simp [List.getElem?_eq_getElem hi]
  · rw [List.getElem?_eq_none (by omega), List.getElem?_eq_none (by simpa using hi)]
    rfl
theorem ixN_nat {n k : Nat} (h : k < n) : ixN n (k : Int) = some k := by
  rw [ixN_pos (by omega) (by omega)]
  simp

local macro_rules | `(tactic| walk_at "nrm") => `(tactic| try dsimp only [DL.sets, DL.wipeS, List.foldl_cons, List.foldl_nil, List.set_cons_zero, List.set_cons_succ, List.cons_append, List.nil_append])
local macro_rules | `(tactic| walk_at "init") => `(tactic| ((try dsimp only [L2.cxOf]); simp only [List.cons_append, List.nil_append, List.length_cons, List.length_nil, List.replicate, Nat.reduceAdd, Nat.reduceSub]))
local macro_rules | `(tactic| walk_at "len") => `(tactic| first | (simp only [List.length_map, List.length_append, List.length_cons, List.length_nil, List.length_take]; omega) | (simp; omega) | assumption)
local macro_rules | `(tactic| walk_at "e1") => `(tactic| first
  | with_reducible refine ev_op ?_
  | (with_reducible refine x_val ?_; refine ⟨_, rfl, ?_⟩)
  | (with_reducible refine x_bor ?_; refine ⟨_, rfl, ?_⟩)
  | (with_reducible refine x_own ?_; refine ⟨_, rfl, ?_⟩)
  | (with_reducible refine x_scr ?_; refine ⟨_, rfl, ?_⟩)
  | (with_reducible refine x_brt ?_; refine ⟨_, rfl, ?_⟩)
  | (with_reducible refine x_ownT ?_; refine ⟨_, rfl, ?_⟩)
  | (with_reducible refine x_ioT ?_; refine ⟨_, rfl, ?_⟩)
  | with_reducible refine ev_int ?_
  | with_reducible refine ev_bl ?_
  | with_reducible refine ev_str ?_
  | with_reducible refine ev_non ?_
  | with_reducible refine ev_ty ?_
  | with_reducible refine ev_cb ?_
  | with_reducible refine ev_call ?_
  | with_reducible refine eva_cons ?_
  | with_reducible refine eva_nil ?_
  | with_reducible refine evv_cons ?_
  | with_reducible refine evv_nil ?_
  | with_reducible refine ev_un ?_
  | with_reducible refine d_addI ?_
  | with_reducible refine d_sub ?_
  | (with_reducible refine d_mulR ?_ ?_ ?_; omega; omega)
  | (with_reducible refine d_mulL ?_ ?_ ?_; omega; omega)
  | (with_reducible refine d_div' ?_ ?_ ?_; omega; omega)
  | (with_reducible refine d_divW' ?_ ?_ ?_; omega; omega)
  | (with_reducible refine d_mod ?_ ?_; first | omega | (simp only [List.mem_cons, List.not_mem_nil, or_false] at *; omega))
  | (with_reducible refine x_powE ?_ ?_ ?_ ?_; omega; omega; omega; refine ⟨_, (by simp only [Int.reduceToNat, Int.reducePow]; rfl), ?_⟩)
  | with_reducible refine d_neg ?_
  | with_reducible refine d_eqI ?_
  | with_reducible refine d_neI ?_
  | with_reducible refine d_eqS ?_
  | with_reducible refine d_neS ?_
  | with_reducible refine d_lt ?_
  | with_reducible refine d_le ?_
  | with_reducible refine d_gt ?_
  | with_reducible refine d_ge ?_
  | with_reducible refine rv_isN ?_
  | with_reducible refine rv_notN ?_
  | with_reducible refine d_abs ?_
  | with_reducible refine d_max ?_
  | with_reducible refine d_min ?_
  | with_reducible refine ra_int ?_
  | with_reducible refine ra_intB ?_
  | (with_reducible refine x_lenM (by constructor) ?_)
  | (with_reducible refine x_lenL ?_; refine ⟨_, by constructor, ?_⟩)
  | with_reducible refine ra_lenT ?_
  | (with_reducible refine x_lenTt ?_; refine ⟨_, by constructor, ?_⟩)
  | (with_reducible refine x_isiE ?_; refine ⟨_, _, rfl, by first | exact kk_ii | exact kk_ib | exact kk_tt | exact kk_ll | exact kk_ss | exact kk_it | exact kk_il | exact kk_is | exact kk_bi | exact kk_bb | exact kk_bt | exact kk_bs | exact kk_tl | exact kk_ti | exact kk_tb | exact kk_ts | exact kk_lt | exact kk_si | exact kk_sb | exact kk_st | exact kk_ns, ?_⟩)
  | (with_reducible refine x_sum ?_; refine ⟨_, by constructor, ?_⟩)
  | (with_reducible refine d_ixM3 (by constructor) ?_ ?_ ?_; assumption; omega; intro _ _ _)
  | (with_reducible refine d_ixB3 (by constructor) ?_ ?_ ?_ ?_; assumption; omega; omega; intro _ _ _)
  | (with_reducible refine x_ixDi (by constructor) (by repeat constructor) ?_ ?_ ?_; omega; (simp only [List.length_cons, List.length_nil]; omega); intro _ _)
  | (with_reducible refine x_ixE (by constructor) ?_ ?_; omega; refine ⟨_, by assumption, ?_⟩)
  | (with_reducible refine x_ixA (by constructor) ?_ ?_ ?_; omega; omega; intro _ _)
  | (with_reducible refine x_sorted ?_; refine ⟨_, by constructor, ?_⟩)
  | (with_reducible refine d_notInI ?_ ?_; exact rfl)
  | (with_reducible refine d_inI ?_ ?_; exact rfl)
  | (with_reducible refine x_ixJ ?_ ?_ ?_; omega; (simp only [List.length_map, List.length_set, List.length_cons, List.length_nil]; omega))
  | (with_reducible refine d_addL (by constructor) (by constructor) ?_ ?_; (first | omega | (simp only [List.length_map, List.length_append, List.length_cons, List.length_nil]; omega)))
  | (with_reducible refine x_ixTtL ?_; refine ⟨_, _, by constructor, rfl, ?_⟩)
  | (with_reducible refine x_ixTtI ?_; refine ⟨_, _, by constructor, rfl, ?_⟩)
  | (with_reducible refine x_ixT ?_; refine ⟨_, rfl, ?_⟩)
  | (with_reducible refine x_ixTi (by repeat constructor) ?_ ?_ ?_; omega; (simp only [List.length_cons, List.length_nil]; omega); intro _ _)
  | with_reducible refine x_newK rfl ?_
  | (with_reducible refine x_din (k := .inl _) rfl ?_; refine ⟨_, (by constructor), ?_⟩)
  | (with_reducible refine x_dnotin (k := .inl _) rfl ?_; refine ⟨_, (by constructor), ?_⟩)
  | (with_reducible refine x_dgetI ?_; refine ⟨_, (by constructor), ?_⟩)
  | (with_reducible refine x_getO (by assumption) ?_; first | intro _ _ | skip)
  | with_reducible refine x_keyI ?_
  | with_reducible refine x_keyS ?_
  | (with_reducible refine en_own ?_; refine ⟨_, rfl, ?_⟩)
  | (with_reducible refine en_io ?_; refine ⟨_, rfl, ?_⟩)
  | with_reducible refine en_dK ?_
  | (with_reducible refine x_listDK ?_; refine ⟨_, (by constructor), ?_⟩)
  | with_reducible refine ra_listT ?_
  | with_reducible refine ev_rev ?_
  | with_reducible refine et_test ?_
  | with_reducible refine et_trB ?_
  | with_reducible refine et_and ?_
  | with_reducible refine et_or ?_
  | with_reducible refine et_not ?_
  | with_reducible refine et_yes ?_
  | with_reducible refine ev_if ?_
  | with_reducible refine ev_andV ?_
  | with_reducible refine ev_orV ?_
  | with_reducible refine ev_notV ?_
  | with_reducible refine ev_sl ?_
  | with_reducible refine evo_none ?_
  | with_reducible refine evo_some ?_
  | (with_reducible refine d_slF3 (by constructor) ?_ ?_ ?_; assumption; omega; intro _ _ _)
  | (with_reducible refine x_slFE (by constructor) ?_ ?_; omega)
  | (with_reducible refine x_slTE (by constructor) ?_ ?_; omega)
  | (with_reducible refine x_slL ?_; refine ⟨_, by constructor, ?_⟩)
  | (with_reducible refine x_list ?_; refine ⟨_, by constructor, ?_⟩)
  | (with_reducible refine x_tup ?_; refine ⟨_, by constructor, ?_⟩)
  | with_reducible refine ra_tupT ?_
  | with_reducible refine ra_listT ?_
  | (with_reducible refine x_tupD ?_)
  | (with_reducible refine x_lstD ?_)
  | (with_reducible refine And.intro (Nat.le_of_ble_eq_true rfl) ?_)
  | (with_reducible refine Exists.intro _ (And.intro rfl ?_))
  | with_reducible refine ex_lsO ?_
  | with_reducible refine ex_lsB ?_
  | with_reducible refine ex_lsS ?_
  | fail)
local macro_rules | `(tactic| walk_at "s1") => `(tactic| first
  | (with_reducible refine b_ff ?_)
  | (with_reducible refine b_tt ?_)
  | (with_reducible refine b_ff' ?_)
  | (with_reducible refine b_tt' ?_)
  | (with_reducible refine b_nt ?_)
  | (with_reducible refine b_nf ?_)
  | (with_reducible refine b_nt' ?_)
  | (with_reducible refine b_nf' ?_)
  | (with_reducible refine b_fT ?_)
  | (with_reducible refine b_tF ?_)
  | (with_reducible refine wp_seq ?_)
  | (with_reducible refine wp_if ?_)
  | (with_reducible refine x_app ?_; refine ⟨_, rfl, (by walk_at "len"), ?_⟩)
  | (with_reducible refine x_setL ?_; refine ⟨_, rfl, ?_⟩)
  | (with_reducible refine wp_asg ?_)
  | (with_reducible refine wp_appNL ?_)
  | (with_reducible refine wp_dputO ?_)
  | (with_reducible refine wp_asgG ?_)
  | (refine ⟨_, _, rfl, GD.tup2 GD.name GD.name, ?_⟩; walk_at "nrm")
  | (with_reducible refine x_retOwn ?_; refine ⟨_, rfl, ?_⟩)
  | (with_reducible refine x_retT2 ?_; refine ⟨_, rfl, rfl, ?_⟩; walk_at "nrm")
  | (with_reducible refine wp_ret ?_)
  | (with_reducible refine wp_next ?_; walk_at "nrm")
  | (with_reducible refine wp_cont ?_)
  | (with_reducible refine wp_break ?_)
  | (with_reducible refine And.intro (StS.val _) ?_; walk_at "nrm")
  | (with_reducible refine And.intro (StS.own _) ?_; walk_at "nrm")
  | (refine Exists.intro _ (And.intro Frz.val ?_); walk_at "nrm")
  | (refine Exists.intro _ (And.intro Frz.oL ?_); walk_at "nrm")
  | fail)
local macro_rules | `(tactic| walk_at "go") => `(tactic| repeat (first | walk_at "e1" | walk_at "s1" | fail))
local macro_rules | `(tactic| walk_at "br") => `(tactic| ((refine And.intro (fun hb => ?_) (fun hb => ?_) <;> try simp only [decide_eq_true_eq, decide_eq_false_iff_not, List.length_map, List.length_cons, List.length_nil, Nat.reduceAdd, Nat.zero_add, Int.reduceEq, Int.reduceNe, not_true_eq_false, not_false_eq_true, Bool.not_eq_true, Bool.not_eq_false, Bool.not_eq_true', Bool.not_eq_false', Bool.not_true, Bool.not_false, reduceCtorEq, Option.isSome_eq_false_iff, Option.isNone_iff_eq_none] at hb) <;> try (exfalso; omega)))
local macro_rules | `(tactic| walk_at "run") => `(tactic| repeat' (first | walk_at "e1" | walk_at "s1" | walk_at "br" | fail))
local macro_rules | `(tactic| walk_at "asg") => `(tactic| (refine wp_seq ?_; refine wp_asg ?_; (repeat walk_at "e1"); refine And.intro (by constructor) ?_; walk_at "nrm"))

-- further rules for laws with classes (DL8 … DLb); to be put into `--@ file macros` of a spec
local macro_rules | `(tactic| walk_at "e1") => `(tactic| first
  | (with_reducible refine x_fldI ?_; walk_at "e1"; refine ⟨_, _, by constructor, by assumption, by assumption, _, rfl, ?_⟩)
  | (with_reducible refine x_fldO ?_; walk_at "e1"; refine ⟨_, _, by constructor, by assumption, by assumption, _, rfl, ?_⟩)
  | (with_reducible refine x_fldL ?_; walk_at "e1"; refine ⟨_, _, by constructor, by assumption, by assumption, _, rfl, ?_⟩)
  | (with_reducible refine x_fldD ?_; walk_at "e1"; refine ⟨_, _, by constructor, by assumption, by assumption, _, rfl, ?_⟩)
  | with_reducible refine ev_meth ?_
  | with_reducible refine ev_make ?_
  | with_reducible refine ev_chain ?_
  | (with_reducible refine x_lenTl ?_; refine ⟨_, by constructor, ?_⟩)
  | with_reducible refine ex_osO ?_
  | with_reducible refine ex_osV ?_
  | (refine ⟨_, _, rfl, by assumption, by assumption, by decide, ?_⟩)
  | fail)
local macro_rules | `(tactic| walk_at "s1") => `(tactic| first
  | (with_reducible refine wp_fld ?_)
  | fail)
local macro_rules | `(tactic| walk_at "e1") => `(tactic| first
  | (with_reducible refine en_fldP ?_)
  | (refine ⟨_, _, rfl, by assumption, by assumption, _, rfl, ?_⟩)
  | fail)
local macro_rules | `(tactic| walk_at "e1") => `(tactic| first
  | with_reducible refine ev_callD ?_
  | (with_reducible refine x_ixMA (by constructor) ?_ ?_; omega; intro _ _)
  | with_reducible refine rv_isB ?_
  | with_reducible refine rv_notB ?_
  | with_reducible refine d_eqB ?_
  | with_reducible refine d_neB ?_
  | with_reducible refine d_eqO ?_
  | with_reducible refine d_inTI ?_
  | with_reducible refine ev_listVals ?_
  | (with_reducible refine x_ixTE ?_ ?_; omega; refine ⟨_, by assumption, ?_⟩)
  | (with_reducible refine x_slTtF ?_ ?_; decide)
  | (with_reducible refine x_ixTL ?_; refine ⟨_, by assumption, ?_⟩)
  | (with_reducible refine ev_notinTT ?_)
  | (with_reducible refine en_dTT ?_)
  | (refine ⟨_, TdT.brt, ?_⟩)
  | with_reducible refine ek_tup ?_
  | with_reducible refine ek_ii ?_
  | (with_reducible refine x_newT rfl ?_)
  | (refine ⟨_, TiS.brt, rfl, ?_⟩)
  | (refine ⟨_, TiS.own, rfl, ?_⟩)
  | fail)
local macro_rules | `(tactic| walk_at "s1") => `(tactic| first
  | (with_reducible refine wp_dputD ?_; (repeat walk_at "e1"); refine Exists.intro _ (And.intro Frz.val ?_))
  | (with_reducible refine wp_dputTT ?_)
  | fail)
local macro_rules | `(tactic| walk_at "asg") => `(tactic| (refine wp_seq ?_; refine wp_asg ?_; (repeat (first | walk_at "e1" | (refine Exists.intro _ (And.intro Frz.val ?_)) | (refine Exists.intro _ (And.intro Frz.oL ?_)))); refine And.intro (by constructor) ?_; walk_at "nrm"))
local macro_rules | `(tactic| walk_at "e1") => `(tactic| first
  | (with_reducible refine ev_dgTVd ?_; refine ⟨_, rfl, ?_⟩; refine ⟨_, rfl, ?_⟩)
  | (with_reducible refine ev_inTVd ?_; refine ⟨_, rfl, ?_⟩; refine ⟨_, rfl, ?_⟩)
  | (with_reducible refine ev_inTV ?_; refine ⟨_, rfl, ?_⟩)
  | (with_reducible refine ev_notinTV ?_; refine ⟨_, rfl, ?_⟩)
  | (with_reducible refine ev_dgTV ?_; refine ⟨_, rfl, ?_⟩)
  | (with_reducible refine en_dTV ?_; refine ⟨_, rfl, ?_⟩)
  | (with_reducible refine ev_inTT ?_)
  | (with_reducible refine ev_dgTTd ?_; refine ⟨_, rfl, ?_⟩)
  | (with_reducible refine ev_notinTTd ?_; refine ⟨_, rfl, ?_⟩)
  | (with_reducible refine ev_inTTd2 ?_; refine ⟨_, rfl, ?_⟩)
  | (with_reducible refine x_lenMt ?_)
  | (with_reducible refine x_inI ?_; refine ⟨_, by constructor, ?_⟩)
  | (with_reducible refine x_notInI ?_; refine ⟨_, by constructor, ?_⟩)
  | (with_reducible refine x_ixMt ?_ ?_; omega; intro _ _)
  | (refine ⟨_, TdT.own, ?_⟩)
  | (refine ⟨_, TdT.val, ?_⟩)
  | fail)
local macro_rules | `(tactic| walk_at "s1") => `(tactic| first
  | (with_reducible refine wp_dputTV ?_; refine ⟨_, rfl, ?_⟩)
  | fail)
local macro_rules | `(tactic| walk_at "nrm") => `(tactic| try dsimp only [DL.putS, id, DL.sets, DL.wipeS, List.foldl_cons, List.foldl_nil, List.getElem?_cons_zero, List.getElem?_cons_succ, List.set_cons_zero, List.set_cons_succ, List.cons_append, List.nil_append])
local macro_rules | `(tactic| walk_at "ev") => `(tactic| repeat (first | walk_at "e1" | (with_reducible refine Exists.intro _ (And.intro Frz.val ?_)) | (with_reducible refine Exists.intro _ (And.intro Frz.oL ?_))))
local macro_rules | `(tactic| walk_at "same") => `(tactic| repeat' (first
  | (with_reducible refine x_ch ?_; refine ⟨_, rfl, ?_⟩)
  | ((with_reducible refine sm_isNF (by assumption) ?_ ?_); exact rfl)
  | ((with_reducible refine rv_isNF ?_ ?_); exact rfl)
  | ((with_reducible refine rv_isNT ?_ ?_); exact rfl)
  | ((with_reducible refine sm_isiE (by assumption) ?_); refine ⟨_, _, rfl, by first | exact kk_tt | exact kk_ts | exact kk_ti | exact kk_tl | exact kk_ll | exact kk_lt | exact kk_ls | exact kk_li, ?_⟩)
  | (with_reducible refine sm_len (by assumption) (by first | assumption | exact .inl rfl | exact .inr rfl) ?_)
  | walk_at "e1"
  | walk_at "s1"
  | walk_at "br"
  | fail))
local macro_rules | `(tactic| walk_at "e1") => `(tactic| first
  | (with_reducible refine bk_rows ?_)
  | (with_reducible refine bk_many ?_)
  | ((with_reducible refine bk_rowsNE ?_); refine ⟨_, _, rfl, ?_⟩)
  | (with_reducible refine enc_0 ?_)
  | (with_reducible refine enc_1 ?_)
  | (with_reducible refine enc_2 ?_)
  | (with_reducible refine enc_3 ?_)
  | fail)

structure Bl (mg : Str → Option Value) : Prop where
  len' : mg "len" = none
  list' : mg "list" = none
  sorted' : mg "sorted" = none
  enumerate' : mg "enumerate" = none
  range' : mg "range" = none
  int' : mg "int" = none
  abs' : mg "abs" = none
  isinstance' : mg "isinstance" = none
  tuple' : mg "tuple" = none
  bool' : mg "bool" = none
  str' : mg "str" = none
  min' : mg "min" = none
  max' : mg "max" = none

/-! ### Lineage.__init__ -/
abbrev s_Lineage_uinit__ : Stmt := inClass (topS 1) 0
abbrev N_Lineage_uinit__ : List Str := ["self"]
theorem sc_Lineage_uinit__ : FnScope N_Lineage_uinit__ ["self"] (defScope s_Lineage_uinit__) := ⟨rfl, rfl, rfl, by decide +kernel, rfl, by decide +kernel, by decide +kernel⟩

def sp_Lineage_uinit__ (a_Lineage : Addr) : SpM := fun as R => as = [.io (.ins a_Lineage [])] ∧ R (.val .non) [.io (linO a_Lineage [] [] [])]
theorem ok_Lineage_uinit__ {Pr : Program} {wd : World} {K : PySem.W.Frag} {mg : Str → Option Value} {base : Heap} {a_Lineage : Addr} (z : Bl mg)  (T_Lineage : Cls K a_Lineage) (n_Lineage_uouts : NoAttr K a_Lineage "_outs") (n_Lineage_uins : NoAttr K a_Lineage "_ins") (n_Lineage_ucarriers : NoAttr K a_Lineage "_carriers") {f : Addr} {fd : FuncData} (F : Fun K "__init__" "Lineage.__init__" s_Lineage_uinit__ f fd) : FnOk Pr wd K mg base CX0 1 f fd ["self"] (spM K (sp_Lineage_uinit__ a_Lineage)) := by
  refine okM F sc_Lineage_uinit__ (fun as R h => ?_) (fun cdv A outer s H E hr => ⟨_, (pss_cons (ps_fldK (K := K) (pv 0) (pe_lst pa_nil) rfl)
      (pss_cons (ps_fldK (K := K) (pv 0) (pe_lst pa_nil) rfl)
      (pss_one (ps_fldK (K := K) (pv 0) (pe_lst pa_nil) rfl)))), fun as R h => ?_⟩)
  · obtain ⟨rfl, _⟩ := h; rfl
  · obtain ⟨rfl, h⟩ := h
    walk_at "init"
    walk_at "run"
    exact h
local macro_rules | `(tactic| walk_at "e1") => `(tactic| ((with_reducible show ∃ ts, Paired Co _ ts ∧ sp_Lineage_uinit__ _ (_ :: ts) _); refine ⟨[], .nil, rfl, ?_⟩))

/-! ### Lineage.station -/
abbrev s_Lineage_station : Stmt := inClass (topS 1) 1
abbrev N_Lineage_station : List Str := ["self"]
theorem sc_Lineage_station : FnScope N_Lineage_station ["self"] (defScope s_Lineage_station) := ⟨rfl, rfl, rfl, by decide +kernel, rfl, by decide +kernel, by decide +kernel⟩

def sp_Lineage_station (a_Lineage : Addr) : SpM := fun as R => ∃ (cs : List Cr) (ins outs : List (List Int)), as = [.io (linO a_Lineage cs ins outs)] ∧ ins.length ≤ 1000 ∧ outs.length ≤ 1000 ∧ R (.val (.int ins.length)) [.io (linO a_Lineage cs (ins ++ [[]]) (outs ++ [[]]))]
theorem ok_Lineage_station {Pr : Program} {wd : World} {K : PySem.W.Frag} {mg : Str → Option Value} {base : Heap} {a_Lineage : Addr} (z : Bl mg)  (T_Lineage : Cls K a_Lineage) (n_Lineage_uins : NoAttr K a_Lineage "_ins") (n_Lineage_uouts : NoAttr K a_Lineage "_outs") {f : Addr} {fd : FuncData} (F : Fun K "station" "Lineage.station" s_Lineage_station f fd) : FnOk Pr wd K mg base CX0 1 f fd ["self"] (spM K (sp_Lineage_station a_Lineage)) := by
  refine okM F sc_Lineage_station (fun as R h => ?_) (fun cdv A outer s H E hr => ⟨_, (pss_cons (ps_expr (pe_bm PySem.F.plainAttrs_list PySem.F.slot_list_append PySem.F.type_list_append mt_append (pe_fldK (K := K) (pv 0) rfl) (pa_cons (pe_lst pa_nil) pa_nil)))
      (pss_cons (ps_expr (pe_bm PySem.F.plainAttrs_list PySem.F.slot_list_append PySem.F.type_list_append mt_append (pe_fldK (K := K) (pv 0) rfl) (pa_cons (pe_lst pa_nil) pa_nil)))
      (pss_one (ps_ret (pe_op g_sub (pe_callB (b_len (K := K)) (by rfl) z.len' (by decide +kernel) (pa_cons (pe_fldK (K := K) (pv 0) rfl) pa_nil)) pe_int))))), fun as R h => ?_⟩)
  · obtain ⟨_, _, _, rfl, _⟩ := h; rfl
  · obtain ⟨cs, ins, outs, rfl, h1, h2, h⟩ := h
    unfold linO at h ⊢
    walk_at "init"
    refine wp_seq ?_
    refine wp_appO ?_
    (repeat walk_at "e1")
    refine ⟨by rw [List.length_map]; omega, ?_⟩
    (repeat walk_at "e1")
    show Wp K _ [.io (linR a_Lineage (oL (cs.map encC)) (.lst (ins.map intL ++ [oL []])) (.lst (outs.map intL)))] _
    refine wp_seq ?_
    refine wp_appO ?_
    (repeat walk_at "e1")
    refine ⟨by rw [List.length_map]; omega, ?_⟩
    (repeat walk_at "e1")
    show Wp K _ [.io (linR a_Lineage (oL (cs.map encC)) (.lst (ins.map intL ++ [oL []])) (.lst (outs.map intL ++ [oL []])))] _
    walk_at "run"
    rw [List.length_append, List.length_map, List.length_singleton, show (((ins.length + 1 : Nat) : Int) - 1) = ins.length by omega]
    rw [List.map_append, List.map_append] at h
    exact h

/-! ### Lineage.put -/
abbrev s_Lineage_put : Stmt := inClass (topS 1) 2
abbrev N_Lineage_put : List Str := ["self", "name", "amount", "maker", "index"]
theorem sc_Lineage_put : FnScope N_Lineage_put ["self", "name", "amount", "maker"] (defScope s_Lineage_put) := ⟨rfl, rfl, rfl, by decide +kernel, rfl, by decide +kernel, by decide +kernel⟩

def sp_Lineage_put (a_Lineage : Addr) : SpM := fun as R => ∃ (cs : List Cr) (many : Nat) (ins outs : List (List Int)) (nm : D) (am : Int) (mk : Option Int), as = [.io (linO a_Lineage cs ins outs), .val nm, .val (.int am), .val (oi mk)] ∧ LinOk cs many ins outs ∧ Pn 3 nm ∧ cs.length ≤ 1000 ∧ (∀ x, mk = some x → 0 ≤ x ∧ x < many) ∧ ∀ outs', LinOk (cs ++ [⟨nm, am, mk, none⟩]) many ins outs' → R (.val (.int cs.length)) [.io (linO a_Lineage (cs ++ [⟨nm, am, mk, none⟩]) ins outs'), .un, .un, .un]
theorem ok_Lineage_put {Pr : Program} {wd : World} {K : PySem.W.Frag} {mg : Str → Option Value} {base : Heap} {a_Lineage : Addr} (z : Bl mg)  (T_Lineage : Cls K a_Lineage) (n_Lineage_uouts : NoAttr K a_Lineage "_outs") (n_Lineage_ucarriers : NoAttr K a_Lineage "_carriers") {f : Addr} {fd : FuncData} (F : Fun K "put" "Lineage.put" s_Lineage_put f fd) : FnOk Pr wd K mg base CX0 1 f fd ["self", "name", "amount", "maker"] (spM K (sp_Lineage_put a_Lineage)) := by
  refine okM F sc_Lineage_put (fun as R h => ?_) (fun cdv A outer s H E hr => ⟨_, (pss_cons (ps_set (i := 4) sc_Lineage_put.nd rfl (by first | exact Or.inl rfl | exact Or.inr rfl) (pe_callB (b_len (K := K)) (by rfl) z.len' (by decide +kernel) (pa_cons (pe_fldK (K := K) (pv 0) rfl) pa_nil)))
      (pss_cons (ps_expr (pe_bm PySem.F.plainAttrs_list PySem.F.slot_list_append PySem.F.type_list_append mt_append (pe_fldK (K := K) (pv 0) rfl) (pa_cons (pe_tup (pa_cons (pv 1) (pa_cons (pv 2) (pa_cons (pv 3) (pa_cons pe_non pa_nil))))) pa_nil)))
      (pss_cons (ps_if (pt_cmpR g_isnot (pv 3) pe_non (nomark _))
      (pss_one (ps_expr (pe_bm PySem.F.plainAttrs_list PySem.F.slot_list_append PySem.F.type_list_append mt_append (pe_ix (g_ix (K := K)) (pe_fldK (K := K) (pv 0) rfl) (pv 3) (fun _ _ => rfl)) (pa_cons (pv 4) pa_nil))))
      pss_nil)
      (pss_one (ps_ret (pv 4)))))), fun as R h => ?_⟩)
  · obtain ⟨_, _, _, _, _, _, _, rfl, _⟩ := h; rfl
  · obtain ⟨cs, many, ins, outs, nm, am, mk, rfl, ok, hn, hl, hm, h⟩ := h
    unfold linO at h ⊢
    walk_at "init"
    walk_at "asg"
    refine wp_seq ?_
    refine wp_appNL ?_
    (repeat walk_at "e1")
    refine ⟨by rw [List.length_map]; omega, ?_⟩
    walk_at "ev"
    walk_at "nrm"
    show Wp K _ [.io (linR a_Lineage (oL (cs.map encC ++ [encC ⟨nm, am, mk, none⟩])) (.lst (ins.map intL)) (.lst (outs.map intL))), _, _, _, _] _
    rw [show cs.map encC ++ [encC ⟨nm, am, mk, none⟩] = (cs ++ [(⟨nm, am, mk, none⟩ : Cr)]).map encC by simp]
    refine wp_seq ?_
    cases mk with
    | none =>
      refine wp_if ?_
      (repeat walk_at "e1")
      refine ⟨fun z => (nomatch z), fun _ => wp_next ?_⟩
      walk_at "run"
      exact h outs (ok.put0 hn)
    | some x =>
      obtain ⟨hx0, hx1⟩ := hm x rfl
      obtain ⟨m, rfl⟩ := Int.eq_ofNat_of_zero_le hx0
      have hlo := ok.lo
      obtain ⟨l, hl0⟩ : ∃ l, outs[m]? = some l := ⟨_, List.getElem?_eq_getElem (by omega)⟩
      have hll : l.length ≤ 1000 := by
        rw [ok.o m l hl0]
        have := idxs_len (f := fun c => c.fr == some (m : Int)) (cs := cs)
        omega
      refine wp_if ?_
      (repeat walk_at "e1")
      refine ⟨fun _ => ?_, fun z => (nomatch z)⟩
      refine wp_appNL ?_
      refine en_ixL ?_
      (repeat walk_at "e1")
      show ∃ k j c, Sl.val (oi (some (m : Int))) = .val (.int k) ∧ _
      refine ⟨(m : Int), m, intL l, rfl, ixN_nat (by rw [List.length_map]; omega), by rw [List.getElem?_map, hl0]; rfl, l.map .int, rfl, by rw [List.length_map]; omega, ?_⟩
      walk_at "ev"
      rw [intL_snoc]
      walk_at "nrm"
      show Wp K _ [.io (linR a_Lineage (oL ((cs ++ [(⟨nm, am, some (m : Int), none⟩ : Cr)]).map encC)) (.lst (ins.map intL)) (.lst ((outs.map intL).set m (intL (l ++ [(cs.length : Int)]))))), _, _, _, _] _
      rw [int_set]
      walk_at "run"
      exact h _ (ok.put1 hn hl0)

/-! ### Lineage.enter -/
abbrev s_Lineage_enter : Stmt := inClass (topS 1) 3
abbrev N_Lineage_enter : List Str := ["self", "index", "station", "name", "amount", "maker", "_"]
theorem sc_Lineage_enter : FnScope N_Lineage_enter ["self", "index", "station"] (defScope s_Lineage_enter) := ⟨rfl, rfl, rfl, by decide +kernel, rfl, by decide +kernel, by decide +kernel⟩

def sp_Lineage_enter (a_Lineage : Addr) : SpM := fun as R => ∃ (cs : List Cr) (many : Nat) (ins outs : List (List Int)) (i m : Nat) (c : Cr), as = [.io (linO a_Lineage cs ins outs), .val (.int (i : Int)), .val (.int (m : Int))] ∧ LinOk cs many ins outs ∧ cs.length ≤ 1000 ∧ cs[i]? = some c ∧ c.tk = none ∧ m < many ∧ ∀ ins', LinOk (cs.set i ⟨c.nm, c.am, c.fr, some (m : Int)⟩) many ins' outs → R (.val .non) [.io (linO a_Lineage (cs.set i ⟨c.nm, c.am, c.fr, some (m : Int)⟩) ins' outs), .un, .un]
theorem ok_Lineage_enter {Pr : Program} {wd : World} {K : PySem.W.Frag} {mg : Str → Option Value} {base : Heap} {a_Lineage : Addr} (z : Bl mg)  (T_Lineage : Cls K a_Lineage) (n_Lineage_uins : NoAttr K a_Lineage "_ins") (n_Lineage_ucarriers : NoAttr K a_Lineage "_carriers") {f : Addr} {fd : FuncData} (F : Fun K "enter" "Lineage.enter" s_Lineage_enter f fd) : FnOk Pr wd K mg base CX0 1 f fd ["self", "index", "station"] (spM K (sp_Lineage_enter a_Lineage)) := by
  refine okM F sc_Lineage_enter (fun as R h => ?_) (fun cdv A outer s H E hr => ⟨_, (pss_cons (ps_asg (pe_ix (g_ix (K := K)) (pe_fldK (K := K) (pv 0) rfl) (pv 1) (fun _ _ => rfl)) (pg_tupK (K := K) (n := 4) rfl (pgs_cons (pg_name (i := 3) sc_Lineage_enter.nd rfl (by first | exact Or.inl rfl | exact Or.inr rfl)) (pgs_cons (pg_name (i := 4) sc_Lineage_enter.nd rfl (by first | exact Or.inl rfl | exact Or.inr rfl)) (pgs_cons (pg_name (i := 5) sc_Lineage_enter.nd rfl (by first | exact Or.inl rfl | exact Or.inr rfl)) (pgs_cons (pg_name (i := 6) sc_Lineage_enter.nd rfl (by first | exact Or.inl rfl | exact Or.inr rfl)) pgs_nil))))))
      (pss_cons (ps_asg (pe_tup (pa_cons (pv 3) (pa_cons (pv 4) (pa_cons (pv 5) (pa_cons (pv 2) pa_nil))))) (pg_sub (pe_fldK (K := K) (pv 0) rfl) (pv 1) set_list))
      (pss_one (ps_expr (pe_bm PySem.F.plainAttrs_list PySem.F.slot_list_append PySem.F.type_list_append mt_append (pe_ix (g_ix (K := K)) (pe_fldK (K := K) (pv 0) rfl) (pv 2) (fun _ _ => rfl)) (pa_cons (pv 1) pa_nil)))))), fun as R h => ?_⟩)
  · obtain ⟨_, _, _, _, _, _, _, rfl, _⟩ := h; rfl
  · obtain ⟨cs, many, ins, outs, i, m, c, rfl, ok, hl, he, ht, hm, h⟩ := h
    unfold linO at h ⊢
    walk_at "init"
    have he' : cs[((i : Nat) : Int).toNat]? = some c := he
    refine wp_seq ?_
    refine wp_asgG ?_
    (repeat walk_at "e1")
    refine ⟨_, _, rfl, .tup4 .name .name .name .name, ?_⟩
    walk_at "nrm"
    refine wp_seq ?_
    refine wp_setLN ?_
    walk_at "ev"
    have hil := (List.getElem?_eq_some_iff.mp he).1
    have hli := ok.li
    obtain ⟨l, hl0⟩ : ∃ l, ins[m]? = some l := ⟨_, List.getElem?_eq_getElem (by omega)⟩
    refine ⟨(i : Int), i, rfl, ixN_nat (by rw [List.length_map, List.length_map]; omega), ⟨encC c, by rw [List.getElem?_map, List.getElem?_map, he]; rfl⟩, ?_⟩
    walk_at "nrm"
    show Wp K _ [.io (linR a_Lineage (.lst (((cs.map encC).map OT.imm).set i (.imm (encC ⟨c.nm, c.am, c.fr, some (m : Int)⟩)))) (.lst (ins.map intL)) (.lst (outs.map intL))), _, _, _, _, _, _] _
    rw [cr_set]
    have hll : l.length ≤ 1000 := by
      obtain ⟨n1, n2⟩ := ok.i m l hl0
      have := (perm_nd n1 idxs_nodup n2).length_eq
      have := idxs_len (f := fun c => c.tk == some (m : Int)) (cs := cs)
      omega
    refine wp_appNL ?_
    refine en_ixL ?_
    (repeat walk_at "e1")
    refine ⟨(m : Int), m, intL l, rfl, ixN_nat (by rw [List.length_map]; omega), by rw [List.getElem?_map, hl0]; rfl, l.map .int, rfl, by rw [List.length_map]; omega, ?_⟩
    walk_at "ev"
    rw [intL_snoc]
    walk_at "nrm"
    have key := h _ (ok.enter he ht hl0)
    rw [← int_set] at key
    exact key

/-! ### Lineage.stations -/
abbrev s_Lineage_stations : Stmt := inClass (topS 1) 4
abbrev N_Lineage_stations : List Str := ["self"]
theorem sc_Lineage_stations : FnScope N_Lineage_stations ["self"] (defScope s_Lineage_stations) := ⟨rfl, rfl, rfl, by decide +kernel, rfl, by decide +kernel, by decide +kernel⟩

def sp_Lineage_stations (a_Lineage : Addr) : SpD := fun as R => ∃ (cs : List Cr) (ins outs : List (List Int)), as = [.brt (linO a_Lineage cs ins outs)] ∧ R (.val (.int ins.length))
theorem ok_Lineage_stations {Pr : Program} {wd : World} {K : PySem.W.Frag} {mg : Str → Option Value} {base : Heap} {a_Lineage : Addr} (z : Bl mg)  (T_Lineage : Cls K a_Lineage) (n_Lineage_uins : NoAttr K a_Lineage "_ins") {f : Addr} {fd : FuncData} (F : Fun K "stations" "Lineage.stations" s_Lineage_stations f fd) : FnOk Pr wd K mg base CX0 1 f fd ["self"] (spD K (sp_Lineage_stations a_Lineage)) := by
  refine okD F sc_Lineage_stations (fun as R h => ?_) (fun cdv A outer s H E hr => ⟨_, (pss_one (ps_ret (pe_callB (b_len (K := K)) (by rfl) z.len' (by decide +kernel) (pa_cons (pe_fldK (K := K) (pv 0) rfl) pa_nil)))), fun as R h => ?_⟩)
  · obtain ⟨_, _, _, rfl, _⟩ := h; rfl
  · obtain ⟨cs, ins, outs, rfl, h⟩ := h
    unfold linO
    walk_at "init"
    walk_at "run"
    rw [List.length_map]
    exact h
local macro_rules | `(tactic| walk_at "e1") => `(tactic| ((with_reducible show ∃ ts, Paired Co _ ts ∧ sp_Lineage_stations _ ts _); refine ⟨_, .cons .brt .nil, _, _, _, rfl, ?_⟩))

/-! ### Lineage.carriers -/
abbrev s_Lineage_carriers : Stmt := inClass (topS 1) 5
abbrev N_Lineage_carriers : List Str := ["self"]
theorem sc_Lineage_carriers : FnScope N_Lineage_carriers ["self"] (defScope s_Lineage_carriers) := ⟨rfl, rfl, rfl, by decide +kernel, rfl, by decide +kernel, by decide +kernel⟩

def sp_Lineage_carriers (a_Lineage : Addr) : SpD := fun as R => ∃ (cs : List Cr) (ins outs : List (List Int)), as = [.brt (linO a_Lineage cs ins outs)] ∧ R (.own (oL (cs.map encC)))
theorem ok_Lineage_carriers {Pr : Program} {wd : World} {K : PySem.W.Frag} {mg : Str → Option Value} {base : Heap} {a_Lineage : Addr} (z : Bl mg)  (T_Lineage : Cls K a_Lineage) (n_Lineage_ucarriers : NoAttr K a_Lineage "_carriers") {f : Addr} {fd : FuncData} (F : Fun K "carriers" "Lineage.carriers" s_Lineage_carriers f fd) : FnOk Pr wd K mg base CX0 1 f fd ["self"] (spD K (sp_Lineage_carriers a_Lineage)) := by
  refine okD F sc_Lineage_carriers (fun as R h => ?_) (fun cdv A outer s H E hr => ⟨_, (pss_one (ps_ret (pe_callTy (b_list (K := K)) (by rfl) z.list' (by decide +kernel) (pa_cons (pe_fldK (K := K) (pv 0) rfl) pa_nil)))), fun as R h => ?_⟩)
  · obtain ⟨_, _, _, rfl, _⟩ := h; rfl
  · obtain ⟨cs, ins, outs, rfl, h⟩ := h
    unfold linO
    walk_at "init"
    walk_at "run"
    trace_state
    exact h
local macro_rules | `(tactic| walk_at "e1") => `(tactic| ((with_reducible show ∃ ts, Paired Co _ ts ∧ sp_Lineage_carriers _ ts _); refine ⟨_, .cons .brt .nil, _, _, _, rfl, ?_⟩))

/-! ### Lineage.carrier -/
abbrev s_Lineage_carrier : Stmt := inClass (topS 1) 6
abbrev N_Lineage_carrier : List Str := ["self", "index"]
theorem sc_Lineage_carrier : FnScope N_Lineage_carrier ["self", "index"] (defScope s_Lineage_carrier) := ⟨rfl, rfl, rfl, by decide +kernel, rfl, by decide +kernel, by decide +kernel⟩

def sp_Lineage_carrier (a_Lineage : Addr) : SpD := fun as R => ∃ (cs : List Cr) (ins outs : List (List Int)) (i : Int) (c : Cr), as = [.brt (linO a_Lineage cs ins outs), .val (.int i)] ∧ 0 ≤ i ∧ cs[i.toNat]? = some c ∧ R (.val (encC c))
theorem ok_Lineage_carrier {Pr : Program} {wd : World} {K : PySem.W.Frag} {mg : Str → Option Value} {base : Heap} {a_Lineage : Addr} (z : Bl mg)  (T_Lineage : Cls K a_Lineage) (n_Lineage_ucarriers : NoAttr K a_Lineage "_carriers") {f : Addr} {fd : FuncData} (F : Fun K "carrier" "Lineage.carrier" s_Lineage_carrier f fd) : FnOk Pr wd K mg base CX0 1 f fd ["self", "index"] (spD K (sp_Lineage_carrier a_Lineage)) := by
  refine okD F sc_Lineage_carrier (fun as R h => ?_) (fun cdv A outer s H E hr => ⟨_, (pss_one (ps_ret (pe_ix (g_ix (K := K)) (pe_fldK (K := K) (pv 0) rfl) (pv 1) (fun _ _ => rfl)))), fun as R h => ?_⟩)
  · obtain ⟨_, _, _, _, _, rfl, _⟩ := h; rfl
  · obtain ⟨cs, ins, outs, i, c, rfl, h0, hc, h⟩ := h
    unfold linO
    walk_at "init"
    walk_at "run"
    trace_state
    exact h
local macro_rules | `(tactic| walk_at "e1") => `(tactic| ((with_reducible show ∃ ts, Paired Co _ ts ∧ sp_Lineage_carrier _ ts _); refine ⟨_, .cons .brt (.cons .val .nil), _, _, _, _, _, rfl, by omega, by assumption, ?_⟩))

/-! ### Lineage.entering -/
abbrev s_Lineage_entering : Stmt := inClass (topS 1) 7
abbrev N_Lineage_entering : List Str := ["self", "station"]
theorem sc_Lineage_entering : FnScope N_Lineage_entering ["self", "station"] (defScope s_Lineage_entering) := ⟨rfl, rfl, rfl, by decide +kernel, rfl, by decide +kernel, by decide +kernel⟩

def sp_Lineage_entering (a_Lineage : Addr) : SpD := fun as R => ∃ (cs : List Cr) (many : Nat) (ins outs : List (List Int)) (m : Nat), as = [.brt (linO a_Lineage cs ins outs), .val (.int (m : Int))] ∧ LinOk cs many ins outs ∧ m < many ∧ R (.own (oL ((idxs (fun c => c.tk == some (m : Int)) cs).map .int)))
theorem ok_Lineage_entering {Pr : Program} {wd : World} {K : PySem.W.Frag} {mg : Str → Option Value} {base : Heap} {a_Lineage : Addr} (z : Bl mg)  (T_Lineage : Cls K a_Lineage) (n_Lineage_uins : NoAttr K a_Lineage "_ins") {f : Addr} {fd : FuncData} (F : Fun K "entering" "Lineage.entering" s_Lineage_entering f fd) : FnOk Pr wd K mg base CX0 1 f fd ["self", "station"] (spD K (sp_Lineage_entering a_Lineage)) := by
  refine okD F sc_Lineage_entering (fun as R h => ?_) (fun cdv A outer s H E hr => ⟨_, (pss_one (ps_ret (pe_callB (b_sortedI (K := K)) (by rfl) z.sorted' (by decide +kernel) (pa_cons (pe_ix (g_ix (K := K)) (pe_fldK (K := K) (pv 0) rfl) (pv 1) (fun _ _ => rfl)) pa_nil)))), fun as R h => ?_⟩)
  · obtain ⟨_, _, _, _, _, rfl, _⟩ := h; rfl
  · obtain ⟨cs, many, ins, outs, m, rfl, ok, hm, h⟩ := h
    unfold linO
    walk_at "init"
    have hlen := ok.li
    obtain ⟨l, hl⟩ : ∃ l, ins[m]? = some l := ⟨_, List.getElem?_eq_getElem (by omega)⟩
    have hg := ok.i m l hl
    refine wp_ret ?_
    (repeat walk_at "e1")
    refine sixTl .brt (atI_nat (show _ = some (intL l) by rw [List.getElem?_map, hl]; rfl)) ?_
    walk_at "run"
    show RaP K (rSortedI K) [.brt (oL (l.map .int))] _
    refine x_sorted ⟨l, .brt, ?_⟩
    rw [idxs_srtd hg.1 hg.2]
    exact ⟨.own _, h⟩
local macro_rules | `(tactic| walk_at "e1") => `(tactic| ((with_reducible show ∃ ts, Paired Co _ ts ∧ sp_Lineage_entering _ ts _); refine ⟨_, .cons .brt (.cons .val .nil), _, _, _, _, _, rfl, by assumption, by omega, ?_⟩))

/-! ### Lineage.leaving -/
abbrev s_Lineage_leaving : Stmt := inClass (topS 1) 8
abbrev N_Lineage_leaving : List Str := ["self", "station"]
theorem sc_Lineage_leaving : FnScope N_Lineage_leaving ["self", "station"] (defScope s_Lineage_leaving) := ⟨rfl, rfl, rfl, by decide +kernel, rfl, by decide +kernel, by decide +kernel⟩

def sp_Lineage_leaving (a_Lineage : Addr) : SpD := fun as R => ∃ (cs : List Cr) (many : Nat) (ins outs : List (List Int)) (m : Nat), as = [.brt (linO a_Lineage cs ins outs), .val (.int (m : Int))] ∧ LinOk cs many ins outs ∧ m < many ∧ R (.own (oL ((idxs (fun c => c.fr == some (m : Int)) cs).map .int)))
theorem ok_Lineage_leaving {Pr : Program} {wd : World} {K : PySem.W.Frag} {mg : Str → Option Value} {base : Heap} {a_Lineage : Addr} (z : Bl mg)  (T_Lineage : Cls K a_Lineage) (n_Lineage_uouts : NoAttr K a_Lineage "_outs") {f : Addr} {fd : FuncData} (F : Fun K "leaving" "Lineage.leaving" s_Lineage_leaving f fd) : FnOk Pr wd K mg base CX0 1 f fd ["self", "station"] (spD K (sp_Lineage_leaving a_Lineage)) := by
  refine okD F sc_Lineage_leaving (fun as R h => ?_) (fun cdv A outer s H E hr => ⟨_, (pss_one (ps_ret (pe_callTy (b_list (K := K)) (by rfl) z.list' (by decide +kernel) (pa_cons (pe_ix (g_ix (K := K)) (pe_fldK (K := K) (pv 0) rfl) (pv 1) (fun _ _ => rfl)) pa_nil)))), fun as R h => ?_⟩)
  · obtain ⟨_, _, _, _, _, rfl, _⟩ := h; rfl
  · obtain ⟨cs, many, ins, outs, m, rfl, ok, hm, h⟩ := h
    unfold linO
    walk_at "init"
    have hlen := ok.lo
    obtain ⟨l, hl⟩ : ∃ l, outs[m]? = some l := ⟨_, List.getElem?_eq_getElem (by omega)⟩
    have hg := ok.o m l hl
    refine wp_ret ?_
    (repeat walk_at "e1")
    refine sixTl .brt (atI_nat (show _ = some (intL l) by rw [List.getElem?_map, hl]; rfl)) ?_
    walk_at "run"
    show RaP K (rListG K) [.brt (oL (l.map .int))] _
    refine x_list ⟨_, .brt, ?_⟩
    subst hg
    exact ⟨.own _, h⟩
local macro_rules | `(tactic| walk_at "e1") => `(tactic| ((with_reducible show ∃ ts, Paired Co _ ts ∧ sp_Lineage_leaving _ ts _); refine ⟨_, .cons .brt (.cons .val .nil), _, _, _, _, _, rfl, by assumption, by omega, ?_⟩))

/-! ### Lineage.outside -/
abbrev s_Lineage_outside : Stmt := inClass (topS 1) 9
abbrev N_Lineage_outside : List Str := ["self", "index", "carrier"]
theorem sc_Lineage_outside : FnScope N_Lineage_outside ["self"] (defScope s_Lineage_outside) := ⟨rfl, rfl, rfl, by decide +kernel, rfl, by decide +kernel, by decide +kernel⟩

def sp_Lineage_outside (a_Lineage : Addr) : SpD := fun as R => ∃ (cs : List Cr) (ins outs : List (List Int)), as = [.brt (linO a_Lineage cs ins outs)] ∧ cs.length ≤ 1000 ∧ R (.own (oL ((idxs (fun c => c.fr.isNone) cs).map .int)))
theorem ok_Lineage_outside {Pr : Program} {wd : World} {K : PySem.W.Frag} {mg : Str → Option Value} {base : Heap} {a_Lineage : Addr} (z : Bl mg)  (T_Lineage : Cls K a_Lineage) (n_Lineage_ucarriers : NoAttr K a_Lineage "_carriers") {f : Addr} {fd : FuncData} (F : Fun K "outside" "Lineage.outside" s_Lineage_outside f fd) : FnOk Pr wd K mg base CX0 1 f fd ["self"] (spD K (sp_Lineage_outside a_Lineage)) := by
  refine okD F sc_Lineage_outside (fun as R h => ?_) (fun cdv A outer s H E hr => ⟨_, (pss_one (ps_ret (pe_lc (own := [("index", 1), ("carrier", 2)]) rfl sc_Lineage_outside.nd (pi_enum (by rfl) z.enumerate' (pa_cons (pe_fldK (K := K) (pv 0) rfl) pa_nil)) (blkOk_by (own := [("index", 1), ("carrier", 2)]) (N := N_Lineage_outside) (sc := defScope s_Lineage_outside) (by decide +kernel)) (fun _ _ _ _ _ => (pg_tupK (K := K) (n := 2) rfl (pgs_cons (pg_name (i := 1) sc_Lineage_outside.nd rfl (by first | exact Or.inl rfl | exact Or.inr rfl)) (pgs_cons (pg_name (i := 2) sc_Lineage_outside.nd rfl (by first | exact Or.inl rfl | exact Or.inr rfl)) pgs_nil)))) (fun _ _ _ _ _ => (pts_one (pt_cmpR g_is (pe_ix (g_ix (K := K)) (pv 2) pe_int (fun _ _ => rfl)) pe_non (nomark _)))) (fun _ _ _ _ _ => (pv 1))))), fun as R h => ?_⟩)
  · obtain ⟨_, _, _, rfl, _⟩ := h; rfl
  · obtain ⟨cs, ins, outs, rfl, hl, h⟩ := h
    unfold linO
    walk_at "init"
    refine wp_ret ?_
    refine ev_filtE (fun k : Nat => .tup [.int (k : Int), ((cs[k]?).map encC).getD .non]) (fun k : Nat => (cs[k]?).any fun c => c.fr.isNone) (fun k : Nat => .int (k : Int)) (List.range cs.length) (by simp; omega) (ei_enumS ?_) (fun k hk => ⟨_, .tup2 .name .name, by simp, ?_, fun _ => ?_⟩) ?_
    · (repeat walk_at "e1")
      exact ⟨_, .brt, enum_idx encC cs⟩
    · have hk := List.mem_range.mp hk
      rw [List.getElem?_eq_getElem hk]
      dsimp only [Option.map, Option.getD, Option.any]
      walk_at "nrm"
      walk_at "run"
      try unfold encC
      walk_at "run"
      trace_state
      first | exact oi_non _ | exact ⟨_, rfl, oi_non _⟩
    · walk_at "nrm"
      walk_at "run"
      (try exact Frz.val)
    · refine ⟨.own _, ?_⟩
      unfold idxs at h
      rw [List.map_map] at h
      exact h
local macro_rules | `(tactic| walk_at "e1") => `(tactic| ((with_reducible show ∃ ts, Paired Co _ ts ∧ sp_Lineage_outside _ ts _); refine ⟨_, .cons .brt .nil, _, _, _, rfl, by omega, ?_⟩))

/-! ### Lineage.present -/
abbrev s_Lineage_present : Stmt := inClass (topS 1) 10
abbrev N_Lineage_present : List Str := ["self", "index", "carrier"]
theorem sc_Lineage_present : FnScope N_Lineage_present ["self"] (defScope s_Lineage_present) := ⟨rfl, rfl, rfl, by decide +kernel, rfl, by decide +kernel, by decide +kernel⟩

def sp_Lineage_present (a_Lineage : Addr) : SpD := fun as R => ∃ (cs : List Cr) (ins outs : List (List Int)), as = [.brt (linO a_Lineage cs ins outs)] ∧ cs.length ≤ 1000 ∧ R (.own (oL ((idxs (fun c => c.tk.isNone) cs).map .int)))
theorem ok_Lineage_present {Pr : Program} {wd : World} {K : PySem.W.Frag} {mg : Str → Option Value} {base : Heap} {a_Lineage : Addr} (z : Bl mg)  (T_Lineage : Cls K a_Lineage) (n_Lineage_ucarriers : NoAttr K a_Lineage "_carriers") {f : Addr} {fd : FuncData} (F : Fun K "present" "Lineage.present" s_Lineage_present f fd) : FnOk Pr wd K mg base CX0 1 f fd ["self"] (spD K (sp_Lineage_present a_Lineage)) := by
  refine okD F sc_Lineage_present (fun as R h => ?_) (fun cdv A outer s H E hr => ⟨_, (pss_one (ps_ret (pe_lc (own := [("index", 1), ("carrier", 2)]) rfl sc_Lineage_present.nd (pi_enum (by rfl) z.enumerate' (pa_cons (pe_fldK (K := K) (pv 0) rfl) pa_nil)) (blkOk_by (own := [("index", 1), ("carrier", 2)]) (N := N_Lineage_present) (sc := defScope s_Lineage_present) (by decide +kernel)) (fun _ _ _ _ _ => (pg_tupK (K := K) (n := 2) rfl (pgs_cons (pg_name (i := 1) sc_Lineage_present.nd rfl (by first | exact Or.inl rfl | exact Or.inr rfl)) (pgs_cons (pg_name (i := 2) sc_Lineage_present.nd rfl (by first | exact Or.inl rfl | exact Or.inr rfl)) pgs_nil)))) (fun _ _ _ _ _ => (pts_one (pt_cmpR g_is (pe_ix (g_ix (K := K)) (pv 2) pe_int (fun _ _ => rfl)) pe_non (nomark _)))) (fun _ _ _ _ _ => (pv 1))))), fun as R h => ?_⟩)
  · obtain ⟨_, _, _, rfl, _⟩ := h; rfl
  · obtain ⟨cs, ins, outs, rfl, hl, h⟩ := h
    unfold linO
    walk_at "init"
    refine wp_ret ?_
    refine ev_filtE (fun k : Nat => .tup [.int (k : Int), ((cs[k]?).map encC).getD .non]) (fun k : Nat => (cs[k]?).any fun c => c.tk.isNone) (fun k : Nat => .int (k : Int)) (List.range cs.length) (by simp; omega) (ei_enumS ?_) (fun k hk => ⟨_, .tup2 .name .name, by simp, ?_, fun _ => ?_⟩) ?_
    · (repeat walk_at "e1")
      exact ⟨_, .brt, enum_idx encC cs⟩
    · have hk := List.mem_range.mp hk
      rw [List.getElem?_eq_getElem hk]
      dsimp only [Option.map, Option.getD, Option.any]
      walk_at "nrm"
      walk_at "run"
      try unfold encC
      walk_at "run"
      trace_state
      first | exact oi_non _ | exact ⟨_, rfl, oi_non _⟩
    · walk_at "nrm"
      walk_at "run"
      (try exact Frz.val)
    · refine ⟨.own _, ?_⟩
      unfold idxs at h
      rw [List.map_map] at h
      exact h
local macro_rules | `(tactic| walk_at "e1") => `(tactic| ((with_reducible show ∃ ts, Paired Co _ ts ∧ sp_Lineage_present _ ts _); refine ⟨_, .cons .brt .nil, _, _, _, rfl, by omega, ?_⟩))

/-! ### _law_cell -/
abbrev s_ulaw_cell : Stmt := topS 3
abbrev N_ulaw_cell : List Str := ["script", "k"]
theorem sc_ulaw_cell : FnScope N_ulaw_cell ["script", "k"] (defScope s_ulaw_cell) := ⟨rfl, rfl, rfl, by decide +kernel, rfl, by decide +kernel, by decide +kernel⟩

def sp_ulaw_cell (a_Lineage : Addr) : SpD := fun as R => ∃ (ns : List Int) (k : Int), as = [.scr (ns.map .int), .val (.int k)] ∧ 0 ≤ k ∧ R (.val (.int (ns.getD k.toNat 0)))
theorem ok_ulaw_cell {Pr : Program} {wd : World} {K : PySem.W.Frag} {mg : Str → Option Value} {base : Heap} {a_Lineage : Addr} (z : Bl mg)   {f : Addr} {fd : FuncData} (F : Fun K "_law_cell" "_law_cell" s_ulaw_cell f fd) : FnOk Pr wd K mg base CX0 1 f fd ["script", "k"] (spD K (sp_ulaw_cell a_Lineage)) := by
  refine okD F sc_ulaw_cell (fun as R h => ?_) (fun cdv A outer s H E hr => ⟨_, (pss_cons (ps_if (pt_cmpR g_lt (pv 1) (pe_callB (b_len (K := K)) (by rfl) z.len' (by decide +kernel) (pa_cons (pv 0) pa_nil)) (nomark _))
      (pss_one (ps_ret (pe_ix (g_ix (K := K)) (pv 0) (pv 1) (fun _ _ => rfl))))
      pss_nil)
      (pss_one (ps_ret pe_int))), fun as R h => ?_⟩)
  · obtain ⟨_, _, rfl, _⟩ := h; rfl
  · obtain ⟨ns, k, rfl, h0, h⟩ := h
    walk_at "init"
    walk_at "go"
    walk_at "br"
    · rename_i hb
      walk_at "go"
      rename_i x hx
      rw [List.getD_eq_getElem?_getD, hx] at h
      exact h
    · rename_i hb
      walk_at "go"
      rw [List.getD_eq_getElem?_getD, List.getElem?_eq_none (by omega)] at h
      exact h
local macro_rules | `(tactic| walk_at "e1") => `(tactic| ((with_reducible show ∃ ts, Paired Co _ ts ∧ sp_ulaw_cell _ ts _); refine ⟨_, .cons (by first | exact .scr | exact .borS) (.cons .val .nil), _, _, rfl, by omega, ?_⟩))

/-! ### _law_numbers -/
abbrev s_ulaw_numbers : Stmt := topS 4
abbrev N_ulaw_numbers : List Str := ["cell", "many", "rest", "whole", "numbers", "k", "mixed"]
theorem sc_ulaw_numbers : FnScope N_ulaw_numbers ["cell", "many"] (defScope s_ulaw_numbers) := ⟨rfl, rfl, rfl, by decide +kernel, rfl, by decide +kernel, by decide +kernel⟩
def I_numbers (c m : Int) (i : Nat) (env : List Sl) : Prop := ∃ (r sz : Int) (ns : List Int) (s5 s6 : Sl), env = [.val (.int c), .val (.int m), .val (.int r), .val (.int sz), .own (oL (ns.map .int)), s5, s6] ∧ 0 ≤ r ∧ ns.length = i ∧ ∀ n ∈ ns, 0 ≤ n ∧ n < 1000
theorem I_numbers_put {c m r sz x : Int} {ns : List Int} {s5 s6 : Sl} {i : Nat} (hr : 0 ≤ r) (hl : ns.length = i) (hn : ∀ n ∈ ns, 0 ≤ n ∧ n < 1000) (hx : 0 ≤ x ∧ x < 1000) : I_numbers c m (i + 1) [.val (.int c), .val (.int m), .val (.int r), .val (.int sz), .own (oL (ns.map .int ++ [.int x])), s5, s6] :=
  ⟨r, sz, ns ++ [x], s5, s6, by simp, hr, by simp [hl], fun n h => by
    rcases List.mem_append.mp h with h | h
    · exact hn n h
    · simp at h; subst h; exact hx⟩
def sp_ulaw_numbers (a_Lineage : Addr) : SpD := fun as R => ∃ (c m : Int), as = [.val (.int c), .val (.int m)] ∧ 0 ≤ m ∧ m ≤ 1000 ∧ ∀ ns : List Int, ns.length = m.toNat → (∀ n ∈ ns, 0 ≤ n ∧ n < 1000) → R (.own (oL (ns.map .int)))
theorem ok_ulaw_numbers {Pr : Program} {wd : World} {K : PySem.W.Frag} {mg : Str → Option Value} {base : Heap} {a_Lineage : Addr} (z : Bl mg)   {f : Addr} {fd : FuncData} (F : Fun K "_law_numbers" "_law_numbers" s_ulaw_numbers f fd) : FnOk Pr wd K mg base CX0 1 f fd ["cell", "many"] (spD K (sp_ulaw_numbers a_Lineage)) := by
  refine okD F sc_ulaw_numbers (fun as R h => ?_) (fun cdv A outer s H E hr => ⟨_, (pss_cons (ps_set (i := 2) sc_ulaw_numbers.nd rfl (by first | exact Or.inl rfl | exact Or.inr rfl) (pe_callB b_abs (by rfl) z.abs' (by decide +kernel) (pa_cons (pv 0) pa_nil)))
      (pss_cons (ps_set (i := 3) sc_ulaw_numbers.nd rfl (by first | exact Or.inl rfl | exact Or.inr rfl) (pv 2))
      (pss_cons (ps_set (i := 4) sc_ulaw_numbers.nd rfl (by first | exact Or.inl rfl | exact Or.inr rfl) (pe_lst pa_nil))
      (pss_cons (ps_for PassesOwn.never rfl (pi_range1 (by rfl) z.range' (pa_cons (pv 1) pa_nil)) (pg_name (i := 5) sc_ulaw_numbers.nd rfl (by first | exact Or.inl rfl | exact Or.inr rfl))
      (pss_one (ps_if (PW.pt (pw_and (pt_cmpR g_ge (pv 3) (pe_op g_pow pe_int pe_int) (nomark _)) (pw_and1 (pt_cmpR g_gt (pv 2) pe_int (nomark _)))))
      (pss_cons (ps_expr (pe_bm PySem.F.plainAttrs_list PySem.F.slot_list_append PySem.F.type_list_append mt_append (pv 4) (pa_cons (pe_op g_mod (pe_callTy b_int (by rfl) z.int' (by decide +kernel) (pa_cons (pv 2) pa_nil)) pe_int) pa_nil)))
      (pss_one (ps_set (i := 2) sc_ulaw_numbers.nd rfl (by first | exact Or.inl rfl | exact Or.inr rfl) (pe_op g_div (pv 2) pe_int))))
      (pss_cons (ps_set (i := 6) sc_ulaw_numbers.nd rfl (by first | exact Or.inl rfl | exact Or.inr rfl) (pe_op g_mod (pe_callTy b_int (by rfl) z.int' (by decide +kernel) (pa_cons (pe_op (g_add (K := K)) (pe_op (g_add (K := K)) (pe_op g_mul (pv 3) pe_int) (pe_op g_mul (pv 5) pe_int)) pe_int) pa_nil)) pe_int))
      (pss_cons (ps_set (i := 6) sc_ulaw_numbers.nd rfl (by first | exact Or.inl rfl | exact Or.inr rfl) (pe_op g_mod (pe_callTy b_int (by rfl) z.int' (by decide +kernel) (pa_cons (pe_op (g_add (K := K)) (pe_op (g_add (K := K)) (pe_op g_mul (pv 6) (pv 6)) (pe_op g_mul pe_int (pv 5))) pe_int) pa_nil)) pe_int))
      (pss_one (ps_expr (pe_bm PySem.F.plainAttrs_list PySem.F.slot_list_append PySem.F.type_list_append mt_append (pv 4) (pa_cons (pe_op g_mod (pe_callTy b_int (by rfl) z.int' (by decide +kernel) (pa_cons (pe_op g_div (pv 6) pe_int) pa_nil)) pe_int) pa_nil)))))))))
      (pss_one (ps_ret (pv 4))))))), fun as R h => ?_⟩)
  · obtain ⟨_, _, rfl, _⟩ := h; rfl
  · obtain ⟨c, m, rfl, h0, h1, h⟩ := h
    walk_at "init"
    walk_at "go"
    refine wp_for (I_numbers c m) (rngD 0 m.toNat) ?_ ?_ ?_ ?_
    · refine ei_rng1 ?_
      walk_at "go"
      exact ⟨by omega, by omega, rfl⟩
    · exact ⟨_, _, [], _, _, rfl, by split <;> omega, rfl, by simp⟩
    · rintro i d env' hd ⟨r, sz, ns, s5, s6, rfl, hr0, hl, hn⟩
      obtain ⟨hi, rfl⟩ := rng_at hd
      refine ⟨_, .name, ?_⟩
      walk_at "nrm"
      walk_at "go"
      walk_at "br"
      · walk_at "go"
        walk_at "br"
        · walk_at "go"
          refine I_numbers_put ?_ hl hn ⟨?_, ?_⟩
          · exact Int.ediv_nonneg hr0 (by decide)
          · omega
          · omega
        · walk_at "go"
          exact I_numbers_put hr0 hl hn ⟨by omega, by omega⟩
      · walk_at "go"
        exact I_numbers_put hr0 hl hn ⟨by omega, by omega⟩
    · rintro env' ⟨r, sz, ns, s5, s6, rfl, _, hl, hn⟩
      rw [rng_len] at hl
      walk_at "nrm"
      walk_at "go"
      exact h ns hl hn
local macro_rules | `(tactic| walk_at "e1") => `(tactic| ((with_reducible show ∃ ts, Paired Co _ ts ∧ sp_ulaw_numbers _ ts _); refine ⟨_, .cons .val (.cons .val .nil), _, _, rfl, by omega, by omega, fun _ _ _ => ?_⟩))

/-! ### _law_draw -/
abbrev s_ulaw_draw : Stmt := topS 5
abbrev N_ulaw_draw : List Str := ["script", "k", "many"]
theorem sc_ulaw_draw : FnScope N_ulaw_draw ["script", "k", "many"] (defScope s_ulaw_draw) := ⟨rfl, rfl, rfl, by decide +kernel, rfl, by decide +kernel, by decide +kernel⟩

def sp_ulaw_draw (a_Lineage : Addr) : SpD := fun as R => ∃ (sc : List Int) (k m : Int), as = [.scr (sc.map .int), .val (.int k), .val (.int m)] ∧ 0 ≤ k ∧ k ≤ 1000 ∧ 0 ≤ m ∧ m ≤ 1000 ∧ ∀ ns : List Int, ns.length = m.toNat → (∀ n ∈ ns, 0 ≤ n ∧ n < 1000) → R (.own (oL (ns.map .int)))
theorem ok_ulaw_draw {Pr : Program} {wd : World} {K : PySem.W.Frag} {mg : Str → Option Value} {base : Heap} {a_Lineage : Addr} (z : Bl mg) (c_ulaw_numbers : Cal Pr wd K mg base "_law_numbers" 1 ["cell", "many"] (spD K (sp_ulaw_numbers a_Lineage))) (c_ulaw_cell : Cal Pr wd K mg base "_law_cell" 1 ["script", "k"] (spD K (sp_ulaw_cell a_Lineage)))  {f : Addr} {fd : FuncData} (F : Fun K "_law_draw" "_law_draw" s_ulaw_draw f fd) : FnOk Pr wd K mg base CX0 2 f fd ["script", "k", "many"] (spD K (sp_ulaw_draw a_Lineage)) := by
  refine okD F sc_ulaw_draw (fun as R h => ?_) (fun cdv A outer s H E hr => ⟨_, (pss_cons (ps_if (pt_cmpR g_lt (pv 1) (pe_callB (b_len (K := K)) (by rfl) z.len' (by decide +kernel) (pa_cons (pv 0) pa_nil)) (nomark _))
      (pss_one (ps_ret (pe_cal c_ulaw_numbers (hr.mono (by decide)) (by rfl) (pa_cons (pe_ix (g_ix (K := K)) (pv 0) (pv 1) (fun _ _ => rfl)) (pa_cons (pv 2) pa_nil)))))
      pss_nil)
      (pss_one (ps_ret (pe_cal c_ulaw_numbers (hr.mono (by decide)) (by rfl) (pa_cons (pe_op (g_add (K := K)) (pe_op g_mod (pe_callTy b_int (by rfl) z.int' (by decide +kernel) (pa_cons (pe_cal c_ulaw_cell (hr.mono (by decide)) (by rfl) (pa_cons (pv 0) (pa_cons pe_int pa_nil))) pa_nil)) pe_int) (pe_op g_mul pe_int (pv 1))) (pa_cons (pv 2) pa_nil)))))), fun as R h => ?_⟩)
  · obtain ⟨_, _, _, rfl, _⟩ := h; rfl
  · obtain ⟨sc, k, m, rfl, h0, h1, h2, h3, h⟩ := h
    walk_at "init"
    walk_at "run"
    all_goals (first | exact h _ (by assumption) (by assumption) | trace_state)
local macro_rules | `(tactic| walk_at "e1") => `(tactic| ((with_reducible show ∃ ts, Paired Co _ ts ∧ sp_ulaw_draw _ ts _); refine ⟨_, .cons (by first | exact .scr | exact .borS) (.cons .val (.cons .val .nil)), _, _, _, rfl, by omega, by omega, by omega, by omega, fun _ _ _ => ?_⟩))

/-! ### _law_same -/
abbrev s_ulaw_same : Stmt := topS 6
abbrev N_ulaw_same : List Str := ["told", "due", "k"]
theorem sc_ulaw_same : FnScope N_ulaw_same ["told", "due"] (defScope s_ulaw_same) := ⟨rfl, rfl, rfl, by decide +kernel, rfl, by decide +kernel, by decide +kernel⟩

def sp_ulaw_same (a_Lineage : Addr) : Nat → SpD := fun n as R => ∃ (t u : OT) (d : D), as = [chS t, chS u] ∧ Sm n t d ∧ Sm n u d ∧ R (.val (.bl true))
theorem ok_ulaw_same (n : Nat) {Pr : Program} {wd : World} {K : PySem.W.Frag} {mg : Str → Option Value} {base : Heap} {a_Lineage : Addr} (z : Bl mg) (c_ulaw_same : Cal Pr wd K mg base "_law_same" (n + 1) ["told", "due"] (spD K (sp_ulaw_same a_Lineage n)))  {f : Addr} {fd : FuncData} (F : Fun K "_law_same" "_law_same" s_ulaw_same f fd) : FnOk Pr wd K mg base CX0 (n + 2) f fd ["told", "due"] (spD K (sp_ulaw_same a_Lineage (n + 1))) := by
  refine okD F sc_ulaw_same (fun as R h => ?_) (fun cdv A outer s H E hr => ⟨_, (pss_cons (ps_if (pt_cmpR g_is (pv 1) pe_non (nomark _))
      (pss_one (ps_ret (pe_cmpR g_is (pv 0) pe_non (nomark _))))
      pss_nil)
      (pss_cons (ps_if (pt_tr (K := K) (pe_callB (b_isi (K := K)) (by rfl) z.isinstance' (by decide +kernel) (pa_cons (pv 1) (pa_cons (pe_bltn (v := .ty "str") (by rfl) z.str' (by decide +kernel) rfl) pa_nil))) (by intro _; rfl))
      (pss_one (ps_ret (pe_and (pe_callB (b_isi (K := K)) (by rfl) z.isinstance' (by decide +kernel) (pa_cons (pv 0) (pa_cons (pe_bltn (v := .ty "str") (by rfl) z.str' (by decide +kernel) rfl) pa_nil))) (pe_one (pe_cmpR (g_eq (K := K) (hu64 hr)) (pv 0) (pv 1) (nomark _))))))
      pss_nil)
      (pss_cons (ps_if (pt_tr (K := K) (pe_callB (b_isi (K := K)) (by rfl) z.isinstance' (by decide +kernel) (pa_cons (pv 1) (pa_cons (pe_bltn (v := .ty "int") (by rfl) z.int' (by decide +kernel) rfl) pa_nil))) (by intro _; rfl))
      (pss_one (ps_ret (pe_and (pe_callB (b_isi (K := K)) (by rfl) z.isinstance' (by decide +kernel) (pa_cons (pv 0) (pa_cons (pe_bltn (v := .ty "int") (by rfl) z.int' (by decide +kernel) rfl) pa_nil))) (pe_and (pe_not (pe_callB (b_isi (K := K)) (by rfl) z.isinstance' (by decide +kernel) (pa_cons (pv 0) (pa_cons (pe_bltn (v := .ty "bool") (by rfl) z.bool' (by decide +kernel) rfl) pa_nil)))) (pe_one (pe_cmpR (g_eq (K := K) (hu64 hr)) (pv 0) (pv 1) (nomark _)))))))
      pss_nil)
      (pss_cons (ps_if (PW.pt (pw_and (pt_tr (K := K) (pe_callB (b_isi (K := K)) (by rfl) z.isinstance' (by decide +kernel) (pa_cons (pv 1) (pa_cons (pe_bltn (v := .ty "list") (by rfl) z.list' (by decide +kernel) rfl) pa_nil))) (by intro _; rfl)) (pw_and1 (pt_not (pt_tr (K := K) (pe_callB (b_isi (K := K)) (by rfl) z.isinstance' (by decide +kernel) (pa_cons (pv 0) (pa_cons (pe_bltn (v := .ty "list") (by rfl) z.list' (by decide +kernel) rfl) pa_nil))) (by intro _; rfl))))))
      (pss_one (ps_ret pe_bl))
      pss_nil)
      (pss_cons (ps_if (PW.pt (pw_and (pt_tr (K := K) (pe_callB (b_isi (K := K)) (by rfl) z.isinstance' (by decide +kernel) (pa_cons (pv 1) (pa_cons (pe_bltn (v := .ty "tuple") (by rfl) z.tuple' (by decide +kernel) rfl) pa_nil))) (by intro _; rfl)) (pw_and1 (pt_not (pt_tr (K := K) (pe_callB (b_isi (K := K)) (by rfl) z.isinstance' (by decide +kernel) (pa_cons (pv 0) (pa_cons (pe_bltn (v := .ty "tuple") (by rfl) z.tuple' (by decide +kernel) rfl) pa_nil))) (by intro _; rfl))))))
      (pss_one (ps_ret pe_bl))
      pss_nil)
      (pss_cons (ps_if (pt_cmpR (g_ne (K := K) (hu64 hr)) (pe_callB (b_len (K := K)) (by rfl) z.len' (by decide +kernel) (pa_cons (pv 0) pa_nil)) (pe_callB (b_len (K := K)) (by rfl) z.len' (by decide +kernel) (pa_cons (pv 1) pa_nil)) (nomark _))
      (pss_one (ps_ret pe_bl))
      pss_nil)
      (pss_one (ps_ret (pe_cmpR (g_eq (K := K) (hu64 hr)) (pe_lc (own := [("k", 2)]) rfl sc_ulaw_same.nd (pi_range1 (by rfl) z.range' (pa_cons (pe_callB (b_len (K := K)) (by rfl) z.len' (by decide +kernel) (pa_cons (pv 1) pa_nil)) pa_nil)) (blkOk_by (own := [("k", 2)]) (N := N_ulaw_same) (sc := defScope s_ulaw_same) (by decide +kernel)) (fun _ _ _ _ _ => (pg_name (i := 2) sc_ulaw_same.nd rfl (by first | exact Or.inl rfl | exact Or.inr rfl))) (fun _ _ _ _ _ => (pts_one (pt_not (pt_tr (K := K) (pe_cal c_ulaw_same (hr.mono (by omega)) (by rfl) (pa_cons (pe_ix (g_ix (K := K)) (pv 0) (pv 2) (fun _ _ => rfl)) (pa_cons (pe_ix (g_ix (K := K)) (pv 1) (pv 2) (fun _ _ => rfl)) pa_nil))) (by intro _; rfl))))) (fun _ _ _ _ _ => (pv 2))) (pe_lst pa_nil) (nomark _)))))))))), fun as R h => ?_⟩)
  · obtain ⟨_, _, _, rfl, _⟩ := h; rfl
  · obtain ⟨t, u, d, rfl, ht, hu, h⟩ := h
    walk_at "init"
    have key : ∀ ds : List D, (d = .tup ds ∨ d = .lst ds) → ds.length ≤ 1000000 → EvE K (tLc (iRng1 (tCons (tCB (rLenG K) (tCons (tVar 1) tNil)) tNil)) (gName 2) (tNot (tTruth K (tCall (spD K (sp_ulaw_same a_Lineage n)) [] E0 (tCons (tOp (rIx K) (tVar 0) (tVar 2)) (tCons (tOp (rIx K) (tVar 1) (tVar 2)) tNil))))) (tVar 2) [2]) [chS t, chS u, .un] (fun s => s = .own (oL [])) := by
      intro ds hd hl
      refine ev_filtE (fun k : Nat => .int (k : Int)) (fun _ => false) (fun k : Nat => .int (k : Int)) (List.range ds.length) (by simp; omega) (ei_rng1 ?_) (fun k hk => ⟨_, .name, by simp, ?_, fun z => (nomatch z)⟩) ?_
      · walk_at "same"
        refine ⟨by omega, by omega, ?_⟩
        unfold rngD
        simp
      · have hk := List.mem_range.mp hk
        walk_at "nrm"
        walk_at "same"
        refine sm_ix ht hd hk fun c hc => ?_
        walk_at "same"
        refine sm_ix hu hd hk fun c2 hc2 => ?_
        walk_at "same"
        refine ⟨_, .cons (co_ch c) (.cons (co_ch c2) .nil), c, c2, _, rfl, hc, hc2, true, rfl, rfl⟩
      · rw [List.filter_eq_nil_iff.mpr (by simp)]
        rfl
    have hp := hu.pn
    cases hp with
    | non n =>
      cases ht
      cases hu
      dsimp only [chS]
      walk_at "same"
      all_goals first | exact h | (exfalso; rename_i hb; simp [DL.isNon] at hb)
    | int n i =>
      cases ht
      cases hu
      dsimp only [chS]
      walk_at "same"
      rw [decide_eq_true rfl]
      exact h
    | str n x =>
      cases ht
      cases hu
      dsimp only [chS]
      walk_at "same"
      rw [decide_eq_true rfl]
      exact h
    | tup n ds hl hd =>
      walk_at "same"
      all_goals first
        | (refine (key ds (.inl rfl) hl).imp fun s e => ?_
           subst e
           walk_at "same"
           exact d_eqNil ⟨.val _, h⟩)
        | trace_state
    | lst n ds hl hd =>
      walk_at "same"
      all_goals first
        | (refine (key ds (.inr rfl) hl).imp fun s e => ?_
           subst e
           walk_at "same"
           exact d_eqNil ⟨.val _, h⟩)
        | trace_state
theorem no_ulaw_same {a_Lineage : Addr} (as : List Sl) (R : Sl → Prop) : ¬ sp_ulaw_same a_Lineage 0 as R := by
  rintro ⟨t, u, d, _, h, _⟩
  cases h.pn
local macro_rules | `(tactic| walk_at "e1") => `(tactic| ((with_reducible show ∃ ts, Paired Co _ ts ∧ sp_ulaw_same _ _ ts _); refine ⟨_, .cons .val (.cons .val .nil), .imm _, .imm _, _, rfl, .imm (by first | exact .int _ _ | exact .non _ | exact (pn_C (by assumption)).le (by decide)), .imm (by first | exact .int _ _ | exact .non _ | exact (pn_C (by assumption)).le (by decide)), ?_⟩))

/-! ### _law_name -/
abbrev s_ulaw_name : Stmt := topS 7
abbrev N_ulaw_name : List Str := ["n", "words", "word"]
theorem sc_ulaw_name : FnScope N_ulaw_name ["n"] (defScope s_ulaw_name) := ⟨rfl, rfl, rfl, by decide +kernel, rfl, by decide +kernel, by decide +kernel⟩
theorem pn_t1 {a : D} (ha : Pn 2 a) : Pn 3 (.tup [a]) := .tup 2 _ (by simp) fun d hd => by
  simp only [List.mem_cons, List.not_mem_nil, or_false] at hd
  subst hd; exact ha
theorem pn_t2 {n : Nat} {a b : D} (ha : Pn n a) (hb : Pn n b) : Pn (n + 1) (.tup [a, b]) := .tup n _ (by simp) fun d hd => by
  simp only [List.mem_cons, List.not_mem_nil, or_false] at hd
  rcases hd with rfl | rfl
  · exact ha
  · exact hb
theorem pn_t3 {n : Nat} {a b c : D} (ha : Pn n a) (hb : Pn n b) (hc : Pn n c) : Pn (n + 1) (.tup [a, b, c]) := .tup n _ (by simp) fun d hd => by
  simp only [List.mem_cons, List.not_mem_nil, or_false] at hd
  rcases hd with rfl | rfl | rfl
  · exact ha
  · exact hb
  · exact hc
def sp_ulaw_name (a_Lineage : Addr) : SpD := fun as R => ∃ (n : List Int), as = [.bor (n.map .int)] ∧ n.length = 10 ∧ (∀ x ∈ n, 0 ≤ x ∧ x < 1000) ∧ ∀ nm, Pn 3 nm → R (.val nm)
theorem ok_ulaw_name {Pr : Program} {wd : World} {K : PySem.W.Frag} {mg : Str → Option Value} {base : Heap} {a_Lineage : Addr} (z : Bl mg)   {f : Addr} {fd : FuncData} (F : Fun K "_law_name" "_law_name" s_ulaw_name f fd) : FnOk Pr wd K mg base CX0 1 f fd ["n"] (spD K (sp_ulaw_name a_Lineage)) := by
  refine okD F sc_ulaw_name (fun as R h => ?_) (fun cdv A outer s H E hr => ⟨_, (pss_cons (ps_set (i := 1) sc_ulaw_name.nd rfl (by first | exact Or.inl rfl | exact Or.inr rfl) (pe_lst (pa_cons pe_str (pa_cons pe_str (pa_cons pe_str (pa_cons pe_str (pa_cons pe_str (pa_cons pe_str (pa_cons pe_str (pa_cons pe_str (pa_cons pe_str (pa_cons pe_str pa_nil))))))))))))
      (pss_cons (ps_set (i := 2) sc_ulaw_name.nd rfl (by first | exact Or.inl rfl | exact Or.inr rfl) (pe_ix (g_ix (K := K)) (pv 1) (pe_op g_mod (pe_ix (g_ix (K := K)) (pv 0) pe_int (fun _ _ => rfl)) pe_int) (fun _ _ => rfl)))
      (pss_cons (ps_if (pt_cmpR (g_eq (K := K) (hu64 hr)) (pe_op g_mod (pe_ix (g_ix (K := K)) (pv 0) pe_int (fun _ _ => rfl)) pe_int) pe_int (nomark _))
      (pss_one (ps_ret (pe_tup (pa_cons (pv 2) pa_nil))))
      pss_nil)
      (pss_cons (ps_if (pt_cmpR (g_eq (K := K) (hu64 hr)) (pe_op g_mod (pe_ix (g_ix (K := K)) (pv 0) pe_int (fun _ _ => rfl)) pe_int) pe_int (nomark _))
      (pss_one (ps_ret (pe_tup (pa_cons (pv 2) (pa_cons (pe_op g_mod (pe_ix (g_ix (K := K)) (pv 0) pe_int (fun _ _ => rfl)) pe_int) pa_nil)))))
      pss_nil)
      (pss_cons (ps_if (pt_cmpR (g_eq (K := K) (hu64 hr)) (pe_op g_mod (pe_ix (g_ix (K := K)) (pv 0) pe_int (fun _ _ => rfl)) pe_int) pe_int (nomark _))
      (pss_one (ps_ret (pe_tup (pa_cons (pv 2) (pa_cons (pe_tup (pa_cons (pe_op g_mod (pe_ix (g_ix (K := K)) (pv 0) pe_int (fun _ _ => rfl)) pe_int) (pa_cons (pe_op g_mod (pe_ix (g_ix (K := K)) (pv 0) pe_int (fun _ _ => rfl)) pe_int) pa_nil))) pa_nil)))))
      pss_nil)
      (pss_one (ps_ret (pe_tup (pa_cons (pv 2) (pa_cons (pe_op (g_add (K := K)) (pe_op g_mul (pe_ix (g_ix (K := K)) (pv 0) pe_int (fun _ _ => rfl)) (pe_op g_pow pe_int pe_int)) (pe_ix (g_ix (K := K)) (pv 0) pe_int (fun _ _ => rfl))) (pa_cons (pe_op g_mod (pe_ix (g_ix (K := K)) (pv 0) pe_int (fun _ _ => rfl)) pe_int) pa_nil))))))))))), fun as R h => ?_⟩)
  · obtain ⟨_, rfl, _⟩ := h; rfl
  · obtain ⟨n, rfl, hn, hb, h⟩ := h
    walk_at "init"
    refine wp_seq ?_
    refine wp_asg ?_
    walk_at "ev"
    refine ⟨.own _, ?_⟩
    walk_at "nrm"
    refine wp_seq ?_
    refine wp_asg ?_
    (repeat walk_at "e1")
    refine x_ixAny .bor (by omega) (by simp only [List.length_cons, List.length_nil]; omega) fun w hw => ?_
    have hw : Pn 1 w := by
      simp only [List.mem_cons, List.not_mem_nil, or_false] at hw
      rcases hw with rfl | rfl | rfl | rfl | rfl | rfl | rfl | rfl | rfl | rfl <;> exact .str 0 _
    refine ⟨.val _, ?_⟩
    walk_at "nrm"
    walk_at "run"
    all_goals first
      | exact h _ (pn_t1 hw.up)
      | exact h _ (pn_t2 hw.up (.int _ _))
      | exact h _ (pn_t2 hw.up (pn_t2 (.int _ _) (.int _ _)))
      | exact h _ (pn_t3 hw.up (.int _ _) (.int _ _))
      | trace_state
local macro_rules | `(tactic| walk_at "e1") => `(tactic| ((with_reducible show ∃ ts, Paired Co _ ts ∧ sp_ulaw_name _ ts _); refine ⟨_, .cons (by first | exact .bor | exact .own | exact .brtB | exact .valB) .nil, _, rfl, by assumption, by assumption, fun _ _ => ?_⟩))

/-! ### _law_amount -/
abbrev s_ulaw_amount : Stmt := topS 8
abbrev N_ulaw_amount : List Str := ["n"]
theorem sc_ulaw_amount : FnScope N_ulaw_amount ["n"] (defScope s_ulaw_amount) := ⟨rfl, rfl, rfl, by decide +kernel, rfl, by decide +kernel, by decide +kernel⟩

def sp_ulaw_amount (a_Lineage : Addr) : SpD := fun as R => ∃ (n : List Int), as = [.bor (n.map .int)] ∧ n.length = 10 ∧ (∀ x ∈ n, 0 ≤ x ∧ x < 1000) ∧ ∀ a : Int, R (.val (.int a))
theorem ok_ulaw_amount {Pr : Program} {wd : World} {K : PySem.W.Frag} {mg : Str → Option Value} {base : Heap} {a_Lineage : Addr} (z : Bl mg)   {f : Addr} {fd : FuncData} (F : Fun K "_law_amount" "_law_amount" s_ulaw_amount f fd) : FnOk Pr wd K mg base CX0 1 f fd ["n"] (spD K (sp_ulaw_amount a_Lineage)) := by
  refine okD F sc_ulaw_amount (fun as R h => ?_) (fun cdv A outer s H E hr => ⟨_, (pss_one (ps_ret (pe_ix (g_ix (K := K)) (pe_lst (pa_cons pe_int (pa_cons (pe_op (g_add (K := K)) pe_int (pe_ix (g_ix (K := K)) (pv 0) pe_int (fun _ _ => rfl))) (pa_cons (pe_op (g_add (K := K)) (pe_op g_pow pe_int pe_int) (pe_op g_mul (pe_ix (g_ix (K := K)) (pv 0) pe_int (fun _ _ => rfl)) (pe_op g_pow pe_int pe_int))) (pa_cons (pe_op g_sub (pe_op g_sub (pe_op g_pow pe_int pe_int) pe_int) (pe_ix (g_ix (K := K)) (pv 0) pe_int (fun _ _ => rfl))) pa_nil))))) (pe_op g_mod (pe_ix (g_ix (K := K)) (pv 0) pe_int (fun _ _ => rfl)) pe_int) (fun _ _ => rfl)))), fun as R h => ?_⟩)
  · obtain ⟨_, rfl, _⟩ := h; rfl
  · obtain ⟨n, rfl, hn, hb, h⟩ := h
    walk_at "init"
    refine wp_ret ?_
    walk_at "ev"
    exact ⟨.val _, h _⟩
local macro_rules | `(tactic| walk_at "e1") => `(tactic| ((with_reducible show ∃ ts, Paired Co _ ts ∧ sp_ulaw_amount _ ts _); refine ⟨_, .cons (by first | exact .bor | exact .own | exact .brtB | exact .valB) .nil, _, rfl, by assumption, by assumption, fun _ => ?_⟩))

/-! ### _law_open -/
abbrev s_ulaw_open : Stmt := topS 9
abbrev N_ulaw_open : List Str := ["book", "k"]
theorem sc_ulaw_open : FnScope N_ulaw_open ["book"] (defScope s_ulaw_open) := ⟨rfl, rfl, rfl, by decide +kernel, rfl, by decide +kernel, by decide +kernel⟩

def sp_ulaw_open (a_Lineage : Addr) : SpD := fun as R => ∃ (cs : List Cr) (many : Nat), as = [.brt (bookO cs many)] ∧ cs.length ≤ 1000 ∧ R (.own (oL ((idxs (fun c => c.tk.isNone) cs).map .int)))
theorem ok_ulaw_open {Pr : Program} {wd : World} {K : PySem.W.Frag} {mg : Str → Option Value} {base : Heap} {a_Lineage : Addr} (z : Bl mg)   {f : Addr} {fd : FuncData} (F : Fun K "_law_open" "_law_open" s_ulaw_open f fd) : FnOk Pr wd K mg base CX0 1 f fd ["book"] (spD K (sp_ulaw_open a_Lineage)) := by
  refine okD F sc_ulaw_open (fun as R h => ?_) (fun cdv A outer s H E hr => ⟨_, (pss_one (ps_ret (pe_lc (own := [("k", 1)]) rfl sc_ulaw_open.nd (pi_range1 (by rfl) z.range' (pa_cons (pe_callB (b_len (K := K)) (by rfl) z.len' (by decide +kernel) (pa_cons (pe_dgetO (hu64 hr) (pv 0) pe_str (fun _ _ => rfl)) pa_nil)) pa_nil)) (blkOk_by (own := [("k", 1)]) (N := N_ulaw_open) (sc := defScope s_ulaw_open) (by decide +kernel)) (fun _ _ _ _ _ => (pg_name (i := 1) sc_ulaw_open.nd rfl (by first | exact Or.inl rfl | exact Or.inr rfl))) (fun _ _ _ _ _ => (pts_one (pt_cmpR g_is (pe_ix (g_ix (K := K)) (pe_ix (g_ix (K := K)) (pe_dgetO (hu64 hr) (pv 0) pe_str (fun _ _ => rfl)) (pv 1) (fun _ _ => rfl)) pe_int (fun _ _ => rfl)) pe_non (nomark _)))) (fun _ _ _ _ _ => (pv 1))))), fun as R h => ?_⟩)
  · obtain ⟨_, _, rfl, _⟩ := h; rfl
  · obtain ⟨cs, many, rfl, hl, h⟩ := h
    walk_at "init"
    refine wp_ret ?_
    refine ev_filtE (fun k : Nat => .int (k : Int)) (fun k : Nat => (cs[k]?).any fun c => c.tk.isNone) (fun k : Nat => .int (k : Int)) (List.range cs.length) (by simp; omega) (ei_rng1 ?_) (fun k hk => ⟨_, .name, by simp, ?_, fun _ => ?_⟩) ?_
    · (repeat walk_at "e1")
      refine ⟨by omega, by omega, ?_⟩
      unfold rngD
      simp
    · have hk := List.mem_range.mp hk
      have hk' : cs[((k : Nat) : Int).toNat]? = some (cs[k]'hk) := List.getElem?_eq_getElem hk
      walk_at "nrm"
      (repeat walk_at "e1")
      rw [List.getElem?_eq_getElem hk]
      trace_state
      first | exact oi_non _ | exact ⟨_, rfl, oi_non _⟩
    · walk_at "nrm"
      walk_at "run"
      (try exact Frz.val)
    · refine ⟨.own _, ?_⟩
      unfold idxs at h
      rw [List.map_map] at h
      exact h
local macro_rules | `(tactic| walk_at "e1") => `(tactic| ((with_reducible show ∃ ts, Paired Co _ ts ∧ sp_ulaw_open _ ts _); refine ⟨_, .cons (by first | exact .brt | exact .ownT | exact .valT) .nil, _, _, rfl, by omega, ?_⟩))

/-! ### _law_add -/
abbrev s_ulaw_add : Stmt := topS 10
abbrev N_ulaw_add : List Str := ["lineage", "book", "n", "maker", "row", "told", "index"]
theorem sc_ulaw_add : FnScope N_ulaw_add ["lineage", "book", "n", "maker"] (defScope s_ulaw_add) := ⟨rfl, rfl, rfl, by decide +kernel, rfl, by decide +kernel, by decide +kernel⟩

def sp_ulaw_add (a_Lineage : Addr) : SpM := fun as R => ∃ (cs : List Cr) (many : Nat) (ins outs : List (List Int)) (n : List Int) (mk : Option Int), as = [.io (linO a_Lineage cs ins outs), .io (bookO cs many), .val (.lst (n.map .int)), .val (oi mk)] ∧ LinOk cs many ins outs ∧ cs.length ≤ 900 ∧ n.length = 10 ∧ (∀ x ∈ n, 0 ≤ x ∧ x < 1000) ∧ (∀ x, mk = some x → 0 ≤ x ∧ x < many) ∧ ∀ cs' outs', LinOk cs' many ins outs' → cs'.length ≤ cs.length + 1 → R (.val (.bl true)) [.io (linO a_Lineage cs' ins outs'), .io (bookO cs' many), .un, .un]
theorem ok_ulaw_add {Pr : Program} {wd : World} {K : PySem.W.Frag} {mg : Str → Option Value} {base : Heap} {a_Lineage : Addr} (z : Bl mg) (c_ulaw_same : Cal Pr wd K mg base "_law_same" 9 ["told", "due"] (spD K (sp_ulaw_same a_Lineage 8))) (c_Lineage_carrier : CalE Pr wd K mg base a_Lineage "carrier" 1 ["self", "index"] (spD K (sp_Lineage_carrier a_Lineage))) (c_Lineage_put : CalE Pr wd K mg base a_Lineage "put" 1 ["self", "name", "amount", "maker"] (spM K (sp_Lineage_put a_Lineage))) (c_ulaw_amount : Cal Pr wd K mg base "_law_amount" 1 ["n"] (spD K (sp_ulaw_amount a_Lineage))) (c_ulaw_name : Cal Pr wd K mg base "_law_name" 1 ["n"] (spD K (sp_ulaw_name a_Lineage)))  {f : Addr} {fd : FuncData} (F : Fun K "_law_add" "_law_add" s_ulaw_add f fd) : FnOk Pr wd K mg base CX0 10 f fd ["lineage", "book", "n", "maker"] (spM K (sp_ulaw_add a_Lineage)) := by
  refine okM F sc_ulaw_add (fun as R h => ?_) (fun cdv A outer s H E hr => ⟨_, (pss_cons (ps_set (i := 4) sc_ulaw_add.nd rfl (by first | exact Or.inl rfl | exact Or.inr rfl) (pe_tup (pa_cons (pe_cal c_ulaw_name (hr.mono (by decide)) (by rfl) (pa_cons (pv 2) pa_nil)) (pa_cons (pe_cal c_ulaw_amount (hr.mono (by decide)) (by rfl) (pa_cons (pv 2) pa_nil)) (pa_cons (pv 3) (pa_cons pe_non pa_nil))))))
      (pss_cons (ps_set (i := 5) sc_ulaw_add.nd rfl (by first | exact Or.inl rfl | exact Or.inr rfl) (pe_mthC c_Lineage_put (hr.mono (by decide)) (pv 0) (pa_cons (pe_ix (g_ix (K := K)) (pv 4) pe_int (fun _ _ => rfl)) (pa_cons (pe_ix (g_ix (K := K)) (pv 4) pe_int (fun _ _ => rfl)) (pa_cons (pv 3) pa_nil)))))
      (pss_cons (ps_expr (pe_bm PySem.F.plainAttrs_list PySem.F.slot_list_append PySem.F.type_list_append mt_append (pe_dgetO (hu64 hr) (pv 1) pe_str (fun _ _ => rfl)) (pa_cons (pv 4) pa_nil)))
      (pss_cons (ps_set (i := 6) sc_ulaw_add.nd rfl (by first | exact Or.inl rfl | exact Or.inr rfl) (pe_op g_sub (pe_callB (b_len (K := K)) (by rfl) z.len' (by decide +kernel) (pa_cons (pe_dgetO (hu64 hr) (pv 1) pe_str (fun _ _ => rfl)) pa_nil)) pe_int))
      (pss_one (ps_ret (pe_and (pe_cal c_ulaw_same (hr.mono (by decide)) (by rfl) (pa_cons (pv 5) (pa_cons (pv 6) pa_nil))) (pe_one (pe_cal c_ulaw_same (hr.mono (by decide)) (by rfl) (pa_cons (pe_mthC c_Lineage_carrier (hr.mono (by decide)) (pv 0) (pa_cons (pv 6) pa_nil)) (pa_cons (pv 4) pa_nil))))))))))), fun as R h => ?_⟩)
  · obtain ⟨_, _, _, _, _, _, rfl, _⟩ := h; rfl
  · obtain ⟨cs, many, ins, outs, n, mk, rfl, ok, hl, hn, hb, hm, h⟩ := h
    walk_at "init"
    refine wp_seq ?_
    refine wp_asg ?_
    walk_at "ev"
    rename_i nm hnm am
    obtain ⟨c, hc⟩ : ∃ c : Cr, c = ⟨nm, am, mk, none⟩ := ⟨_, rfl⟩
    have hcn : Pn 3 c.nm := by rw [hc]; exact hnm
    rw [show D.tup [nm, D.int am, oi mk, D.non] = encC c by rw [hc]; rfl]
    refine ⟨.val _, ?_⟩
    walk_at "nrm"
    refine wp_seq ?_
    refine wp_asgM ?_
    refine em_meth (.inr rfl) rfl ?_
    walk_at "ev"
    have hcm : c.fr = mk := by rw [hc]
    refine ⟨[_, _, _], rfl, cs, many, ins, outs, c.nm, c.am, mk, rfl, ok, hcn, by omega, hm, fun outs' ok' => ⟨_, rfl, rfl, ?_⟩⟩
    rw [show (⟨c.nm, c.am, mk, none⟩ : Cr) = c by rw [hc]] at ok' ⊢
    walk_at "nrm"
    refine wp_seq ?_
    refine wp_appNL ?_
    refine bk_rowsN rfl ⟨_, rfl, (by rw [List.length_map]; omega), ?_⟩
    walk_at "ev"
    walk_at "nrm"
    rw [bk_snoc]
    have hlen : (cs ++ [c]).length = cs.length + 1 := by simp
    walk_at "asg"
    rw [show (((cs ++ [c]).length : Nat) : Int) - 1 = (cs.length : Int) by omega]
    have hget : (cs ++ [c])[((cs.length : Nat) : Int).toNat]? = some c := by simp
    walk_at "run"
    trace_state
    exact h _ outs' ok' (by omega)

/-! ### _law_enter -/
abbrev s_ulaw_enter : Stmt := topS 11
abbrev N_ulaw_enter : List Str := ["lineage", "book", "n", "there", "index", "station", "row"]
theorem sc_ulaw_enter : FnScope N_ulaw_enter ["lineage", "book", "n"] (defScope s_ulaw_enter) := ⟨rfl, rfl, rfl, by decide +kernel, rfl, by decide +kernel, by decide +kernel⟩

def sp_ulaw_enter (a_Lineage : Addr) : SpM := fun as R => ∃ (cs : List Cr) (many : Nat) (ins outs : List (List Int)) (n : List Int), as = [.io (linO a_Lineage cs ins outs), .io (bookO cs many), .val (.lst (n.map .int))] ∧ LinOk cs many ins outs ∧ cs.length ≤ 900 ∧ n.length = 10 ∧ (∀ x ∈ n, 0 ≤ x ∧ x < 1000) ∧ idxs (fun c => c.tk.isNone) cs ≠ [] ∧ 0 < many ∧ many ≤ 900 ∧ ∀ cs' ins', LinOk cs' many ins' outs → cs'.length = cs.length → R (.val (.bl true)) [.io (linO a_Lineage cs' ins' outs), .io (bookO cs' many), .un]
theorem ok_ulaw_enter {Pr : Program} {wd : World} {K : PySem.W.Frag} {mg : Str → Option Value} {base : Heap} {a_Lineage : Addr} (z : Bl mg) (c_ulaw_same : Cal Pr wd K mg base "_law_same" 9 ["told", "due"] (spD K (sp_ulaw_same a_Lineage 8))) (c_Lineage_carrier : CalE Pr wd K mg base a_Lineage "carrier" 1 ["self", "index"] (spD K (sp_Lineage_carrier a_Lineage))) (c_Lineage_enter : CalE Pr wd K mg base a_Lineage "enter" 1 ["self", "index", "station"] (spM K (sp_Lineage_enter a_Lineage))) (c_ulaw_open : Cal Pr wd K mg base "_law_open" 1 ["book"] (spD K (sp_ulaw_open a_Lineage)))  {f : Addr} {fd : FuncData} (F : Fun K "_law_enter" "_law_enter" s_ulaw_enter f fd) : FnOk Pr wd K mg base CX0 10 f fd ["lineage", "book", "n"] (spM K (sp_ulaw_enter a_Lineage)) := by
  refine okM F sc_ulaw_enter (fun as R h => ?_) (fun cdv A outer s H E hr => ⟨_, (pss_cons (ps_set (i := 3) sc_ulaw_enter.nd rfl (by first | exact Or.inl rfl | exact Or.inr rfl) (pe_cal c_ulaw_open (hr.mono (by decide)) (by rfl) (pa_cons (pv 1) pa_nil)))
      (pss_cons (ps_set (i := 4) sc_ulaw_enter.nd rfl (by first | exact Or.inl rfl | exact Or.inr rfl) (pe_ix (g_ix (K := K)) (pv 3) (pe_op g_mod (pe_ix (g_ix (K := K)) (pv 2) pe_int (fun _ _ => rfl)) (pe_callB (b_len (K := K)) (by rfl) z.len' (by decide +kernel) (pa_cons (pv 3) pa_nil))) (fun _ _ => rfl)))
      (pss_cons (ps_set (i := 5) sc_ulaw_enter.nd rfl (by first | exact Or.inl rfl | exact Or.inr rfl) (pe_op g_mod (pe_ix (g_ix (K := K)) (pv 2) pe_int (fun _ _ => rfl)) (pe_dgetO (hu64 hr) (pv 1) pe_str (fun _ _ => rfl))))
      (pss_cons (ps_expr (pe_mthC c_Lineage_enter (hr.mono (by decide)) (pv 0) (pa_cons (pv 4) (pa_cons (pv 5) pa_nil))))
      (pss_cons (ps_set (i := 6) sc_ulaw_enter.nd rfl (by first | exact Or.inl rfl | exact Or.inr rfl) (pe_ix (g_ix (K := K)) (pe_dgetO (hu64 hr) (pv 1) pe_str (fun _ _ => rfl)) (pv 4) (fun _ _ => rfl)))
      (pss_cons (ps_asg (pe_tup (pa_cons (pe_ix (g_ix (K := K)) (pv 6) pe_int (fun _ _ => rfl)) (pa_cons (pe_ix (g_ix (K := K)) (pv 6) pe_int (fun _ _ => rfl)) (pa_cons (pe_ix (g_ix (K := K)) (pv 6) pe_int (fun _ _ => rfl)) (pa_cons (pv 5) pa_nil))))) (pg_sub (pe_dgetO (hu64 hr) (pv 1) pe_str (fun _ _ => rfl)) (pv 4) set_list))
      (pss_one (ps_ret (pe_cal c_ulaw_same (hr.mono (by decide)) (by rfl) (pa_cons (pe_mthC c_Lineage_carrier (hr.mono (by decide)) (pv 0) (pa_cons (pv 4) pa_nil)) (pa_cons (pe_ix (g_ix (K := K)) (pe_dgetO (hu64 hr) (pv 1) pe_str (fun _ _ => rfl)) (pv 4) (fun _ _ => rfl)) pa_nil))))))))))), fun as R h => ?_⟩)
  · obtain ⟨_, _, _, _, _, rfl, _⟩ := h; rfl
  · obtain ⟨cs, many, ins, outs, n, rfl, ok, hl, hn, hb, hne, hm0, hm1, h⟩ := h
    have hlen : 0 < (idxs (fun c => c.tk.isNone) cs).length := List.length_pos_iff.mpr hne
    walk_at "init"
    walk_at "asg"
    refine wp_seq ?_
    refine wp_asg ?_
    (repeat walk_at "e1")
    rename_i x hx
    obtain ⟨i, c, rfl, hi, hc⟩ := idxs_mem.mp hx
    have hct : c.tk = none := by simpa using hc
    have hcn := ok.nm c (List.mem_of_getElem? hi)
    have hil := (List.getElem?_eq_some_iff.mp hi).1
    refine ⟨.val _, ?_⟩
    walk_at "nrm"
    refine wp_seq ?_
    refine wp_asg ?_
    (repeat walk_at "e1")
    rename_i y y0 y1
    refine ⟨.val _, ?_⟩
    walk_at "nrm"
    obtain ⟨m, hm⟩ : ∃ m : Nat, (m : Int) = y % (many : Int) := ⟨(y % (many : Int)).toNat, by
      have := Int.emod_nonneg y (b := (many : Int)) (by omega)
      omega⟩
    have hmm : m < many := by
      have := Int.emod_lt_of_pos y (b := (many : Int)) (by omega)
      omega
    rw [← hm]
    clear hm
    obtain ⟨c2, hc2⟩ : ∃ c2 : Cr, c2 = ⟨c.nm, c.am, c.fr, some (m : Int)⟩ := ⟨_, rfl⟩
    have hc2n : Pn 3 c2.nm := by rw [hc2]; exact hcn
    refine wp_seq ?_
    refine wp_dropM ?_
    refine em_meth (.inr rfl) rfl ?_
    walk_at "ev"
    refine ⟨[_, _], rfl, cs, many, ins, outs, i, m, c, rfl, ok, by omega, hi, hct, hmm, fun ins' ok' => ⟨_, rfl, rfl, ?_⟩⟩
    rw [← hc2] at ok' ⊢
    have hi' : cs[((i : Nat) : Int).toNat]? = some c := hi
    walk_at "nrm"
    walk_at "asg"
    refine wp_seq ?_
    refine wp_setLN ?_
    walk_at "ev"
    refine ⟨(i : Int), i, rfl, ixN_nat (by rw [List.length_map, List.length_map]; omega), ⟨encC c, by rw [List.getElem?_map, List.getElem?_map, hi]; rfl⟩, ?_⟩
    walk_at "nrm"
    rw [show D.tup [c.nm, D.int c.am, oi c.fr, D.int (m : Int)] = encC c2 by rw [hc2]; rfl, cr_set]
    show Wp K _ [.io (linO a_Lineage (cs.set i c2) ins' outs), .io (bookO (cs.set i c2) many), _, _, _, _, _] _
    have hget : (cs.set i c2)[((i : Nat) : Int).toNat]? = some c2 := by
      show (cs.set i c2)[i]? = some c2
      rw [List.getElem?_set_self hil]
    walk_at "run"
    trace_state
    exact h _ ins' ok' (by simp)

/-! ### _law_call -/
abbrev s_ulaw_call : Stmt := topS 12
abbrev N_ulaw_call : List Str := ["lineage", "book", "n", "deed", "told"]
theorem sc_ulaw_call : FnScope N_ulaw_call ["lineage", "book", "n"] (defScope s_ulaw_call) := ⟨rfl, rfl, rfl, by decide +kernel, rfl, by decide +kernel, by decide +kernel⟩
theorem d_neNil {K : PySem.W.Frag} {P : Sl → Prop} {ns : List Int} (p : P (.val (.bl (!decide (ns = []))))) : RvP K (rNeG K) (.own (oL (ns.map .int))) (.own (oL [])) P :=
  x_neIL ⟨ns, [], by constructor, .own (ks := []), p⟩
theorem bk_put {cs : List Cr} {many : Nat} : OT.dK (putO [(.inr (Str.ofString "rows"), oL (cs.map encC)), (.inr (Str.ofString "many"), .imm (.int (many : Int)))] (.inr (Str.ofString "many")) (.imm (.int ((many : Int) + 1)))) = bookO cs (many + 1) := rfl
def sp_ulaw_call (a_Lineage : Addr) : SpM := fun as R => ∃ (cs : List Cr) (many : Nat) (ins outs : List (List Int)) (n : List Int), as = [.io (linO a_Lineage cs ins outs), .io (bookO cs many), .val (.lst (n.map .int))] ∧ LinOk cs many ins outs ∧ cs.length ≤ 800 ∧ many ≤ 800 ∧ n.length = 10 ∧ (∀ x ∈ n, 0 ≤ x ∧ x < 1000) ∧ ∀ cs' many' ins' outs', LinOk cs' many' ins' outs' → cs'.length ≤ cs.length + 1 → many' ≤ many + 1 → R (.val (.bl true)) [.io (linO a_Lineage cs' ins' outs'), .io (bookO cs' many'), .un]
theorem ok_ulaw_call {Pr : Program} {wd : World} {K : PySem.W.Frag} {mg : Str → Option Value} {base : Heap} {a_Lineage : Addr} (z : Bl mg) (c_ulaw_add : Cal Pr wd K mg base "_law_add" 10 ["lineage", "book", "n", "maker"] (spM K (sp_ulaw_add a_Lineage))) (c_ulaw_open : Cal Pr wd K mg base "_law_open" 1 ["book"] (spD K (sp_ulaw_open a_Lineage))) (c_ulaw_enter : Cal Pr wd K mg base "_law_enter" 10 ["lineage", "book", "n"] (spM K (sp_ulaw_enter a_Lineage))) (c_ulaw_same : Cal Pr wd K mg base "_law_same" 9 ["told", "due"] (spD K (sp_ulaw_same a_Lineage 8))) (c_Lineage_station : CalE Pr wd K mg base a_Lineage "station" 1 ["self"] (spM K (sp_Lineage_station a_Lineage)))  {f : Addr} {fd : FuncData} (F : Fun K "_law_call" "_law_call" s_ulaw_call f fd) : FnOk Pr wd K mg base CX0 11 f fd ["lineage", "book", "n"] (spM K (sp_ulaw_call a_Lineage)) := by
  refine okM F sc_ulaw_call (fun as R h => ?_) (fun cdv A outer s H E hr => ⟨_, (pss_cons (ps_set (i := 3) sc_ulaw_call.nd rfl (by first | exact Or.inl rfl | exact Or.inr rfl) (pe_op g_mod (pe_ix (g_ix (K := K)) (pv 2) pe_int (fun _ _ => rfl)) pe_int))
      (pss_cons (ps_if (PW.pt (pw_or (pt_cmpR (g_eq (K := K) (hu64 hr)) (pv 3) pe_int (nomark _)) (pw_or1 (PW.pt (pw_and (pt_cmpR (g_eq (K := K) (hu64 hr)) (pe_dgetO (hu64 hr) (pv 1) pe_str (fun _ _ => rfl)) pe_int (nomark _)) (pw_and1 (pt_cmpR g_gt (pv 3) pe_int (nomark _))))))))
      (pss_cons (ps_set (i := 4) sc_ulaw_call.nd rfl (by first | exact Or.inl rfl | exact Or.inr rfl) (pe_mthC0 c_Lineage_station (hr.mono (by decide)) (pv 0)))
      (pss_cons (ps_asg (pe_op (g_add (K := K)) (pe_dgetO (hu64 hr) (pv 1) pe_str (fun _ _ => rfl)) pe_int) (pg_sub (pv 1) pe_str (set_dictO (hu64 hr))))
      (pss_one (ps_ret (pe_cal c_ulaw_same (hr.mono (by decide)) (by rfl) (pa_cons (pv 4) (pa_cons (pe_op g_sub (pe_dgetO (hu64 hr) (pv 1) pe_str (fun _ _ => rfl)) pe_int) pa_nil)))))))
      pss_nil)
      (pss_cons (ps_if (PW.pt (pw_and (pt_cmpR g_gt (pv 3) pe_int (nomark _)) (pw_and1 (pt_cmpR (g_ne (K := K) (hu64 hr)) (pe_cal c_ulaw_open (hr.mono (by decide)) (by rfl) (pa_cons (pv 1) pa_nil)) (pe_lst pa_nil) (nomark _)))))
      (pss_one (ps_ret (pe_cal c_ulaw_enter (hr.mono (by decide)) (by rfl) (pa_cons (pv 0) (pa_cons (pv 1) (pa_cons (pv 2) pa_nil))))))
      pss_nil)
      (pss_cons (ps_if (pt_cmpR (g_eq (K := K) (hu64 hr)) (pv 3) pe_int (nomark _))
      (pss_one (ps_ret (pe_cal c_ulaw_add (hr.mono (by decide)) (by rfl) (pa_cons (pv 0) (pa_cons (pv 1) (pa_cons (pv 2) (pa_cons pe_non pa_nil)))))))
      pss_nil)
      (pss_one (ps_ret (pe_cal c_ulaw_add (hr.mono (by decide)) (by rfl) (pa_cons (pv 0) (pa_cons (pv 1) (pa_cons (pv 2) (pa_cons (pe_op g_mod (pe_ix (g_ix (K := K)) (pv 2) pe_int (fun _ _ => rfl)) (pe_dgetO (hu64 hr) (pv 1) pe_str (fun _ _ => rfl))) pa_nil))))))))))), fun as R h => ?_⟩)
  · obtain ⟨_, _, _, _, _, rfl, _⟩ := h; rfl
  · obtain ⟨cs, many, ins, outs, n, rfl, ok, hl, hm, hn, hb, h⟩ := h
    have hli := ok.li
    have hlo := ok.lo
    walk_at "init"
    walk_at "asg"
    rename_i x hx0 hx1
    refine wp_seq ?_
    refine wp_cut (fun e => e = [.io (linO a_Lineage cs ins outs), .io (bookO cs many), .val (.lst (n.map .int)), .val (.int (x % 5)), .un] ∧ (0 < many ∨ x % 5 = 1)) ?_ ?_
    · refine wp_if ?_
      (repeat' (first | walk_at "e1" | walk_at "br" | fail))
      all_goals first
        | exact wp_next ⟨rfl, by omega⟩
        | skip
      all_goals
        refine wp_seq ?_
        refine wp_asgM ?_
        refine em_meth (.inr rfl) rfl ?_
        refine eva_nil ⟨[], rfl, cs, ins, outs, rfl, by omega, by omega, ⟨_, rfl, rfl, ?_⟩⟩
        walk_at "nrm"
        rw [hli]
        refine wp_seq ?_
        refine wp_dputD ?_
        walk_at "ev"
        trace_state
        walk_at "nrm"
        rw [bk_put]
        refine wp_ret ?_
        (repeat walk_at "e1")
        rw [show (((many + 1 : Nat) : Int) - 1) = (many : Int) by omega]
        (repeat walk_at "e1")
        trace_state
        exact ⟨.val _, h _ _ _ _ ok.station (by omega) (by omega)⟩
    rintro _ ⟨rfl, hd⟩
    refine wp_seq ?_
    refine wp_cut (fun e => e = [.io (linO a_Lineage cs ins outs), .io (bookO cs many), .val (.lst (n.map .int)), .val (.int (x % 5)), .un]) ?_ ?_
    · refine wp_if ?_
      (repeat' (first | walk_at "e1" | walk_at "br" | fail))
      · refine d_neNil ?_
        (repeat' (first | walk_at "e1" | walk_at "br" | fail))
        · rename_i hb1 hb2
          refine wpf_ret ?_
          refine ef_em (em_callNd ?_)
          refine na_cons (en_var (.inr rfl) ?_)
          refine na_cons (en_var (.inr rfl) ?_)
          refine na_data ?_
          (repeat walk_at "e1")
          refine ⟨[_], rfl, by simp, cs, many, ins, outs, n, rfl, ok, by omega, hn, hb, by simpa using hb2, by omega, by omega, fun cs' ins' ok' hl' => ⟨[_, _], _, rfl, rfl, rfl, _, rfl, ?_⟩⟩
          exact h cs' many ins' outs ok' (by omega) (by omega)
        · exact wp_next rfl
      all_goals exact wp_next rfl
    rintro _ rfl
    refine wp_seq ?_
    refine wp_if ?_
    (repeat' (first | walk_at "e1" | walk_at "br" | fail))
    · refine wpf_ret ?_
      refine ef_em (em_callNd ?_)
      refine na_cons (en_var (.inr rfl) ?_)
      refine na_cons (en_var (.inr rfl) ?_)
      refine na_data ?_
      (repeat walk_at "e1")
      refine ⟨[_, _], rfl, by simp, cs, many, ins, outs, n, none, rfl, ok, by omega, hn, hb, fun x z => (nomatch z), fun cs' outs' ok' hl' => ⟨[_, _], _, rfl, rfl, rfl, _, rfl, ?_⟩⟩
      exact h cs' many ins outs' ok' (by omega) (by omega)
    · rename_i hb1
      refine wp_next ?_
      refine wpf_ret ?_
      refine ef_em (em_callNd ?_)
      refine na_cons (en_var (.inr rfl) ?_)
      refine na_cons (en_var (.inr rfl) ?_)
      refine na_data ?_
      (repeat walk_at "e1")
      rename_i y y0 y1
      have z0 := Int.emod_nonneg y (b := (many : Int)) (by omega)
      have z1 := Int.emod_lt_of_pos y (b := (many : Int)) (by omega)
      refine ⟨[_, _], rfl, by simp, cs, many, ins, outs, n, some (y % (many : Int)), rfl, ok, by omega, hn, hb, fun x z => (by cases z; exact ⟨z0, z1⟩), fun cs' outs' ok' hl' => ⟨[_, _], _, rfl, rfl, rfl, _, rfl, ?_⟩⟩
      exact h cs' many ins outs' ok' (by omega) (by omega)

/-! ### _law_as_due -/
abbrev s_ulaw_as_due : Stmt := topS 13
abbrev N_ulaw_as_due : List Str := ["lineage", "book", "rows", "told", "due", "k", "station", "row"]
theorem sc_ulaw_as_due : FnScope N_ulaw_as_due ["lineage", "book"] (defScope s_ulaw_as_due) := ⟨rfl, rfl, rfl, by decide +kernel, rfl, by decide +kernel, by decide +kernel⟩
def ixI (f : Cr → Bool) (cs : List Cr) : List D := (idxs f cs).map .int
/-- all that is told, for the first i stations -/
def allQ (cs : List Cr) (i : Nat) : List (List D) := [cs.map encC, ixI (fun c => c.fr.isNone) cs, ixI (fun c => c.tk.isNone) cs] ++ (List.range i).flatMap fun s : Nat => [ixI (fun c => c.tk == some (s : Int)) cs, ixI (fun c => c.fr == some (s : Int)) cs]
theorem allQ_succ {cs : List Cr} {i : Nat} : allQ cs (i + 1) = allQ cs i ++ [ixI (fun c => c.tk == some (i : Int)) cs] ++ [ixI (fun c => c.fr == some (i : Int)) cs] := by
  unfold allQ
  rw [List.range_succ, List.flatMap_append]
  simp
theorem allQ_len {cs : List Cr} {i : Nat} : (allQ cs i).length = 3 + 2 * i := by
  induction i with
  | zero => rfl
  | succ i ih => rw [allQ_succ, List.length_append, List.length_append, ih]; simp; omega
theorem allQ_ok {cs : List Cr} {i : Nat} (hn : ∀ c ∈ cs, Pn 3 c.nm) (hl : cs.length ≤ 800) : ∀ q ∈ allQ cs i, q.length ≤ 800 ∧ ∀ d ∈ q, Pn 4 d := by
  have hI : ∀ f : Cr → Bool, (ixI f cs).length ≤ 800 ∧ ∀ d ∈ ixI f cs, Pn 4 d := fun f => by
    refine ⟨?_, fun d hd => ?_⟩
    · unfold ixI
      rw [List.length_map]
      have := idxs_len (f := f) (cs := cs)
      omega
    · obtain ⟨x, _, rfl⟩ := List.mem_map.mp hd
      exact .int 3 x
  intro q hq
  unfold allQ at hq
  rcases List.mem_append.mp hq with h | h
  · simp only [List.mem_cons, List.not_mem_nil, or_false] at h
    rcases h with rfl | rfl | rfl
    · refine ⟨by rw [List.length_map]; exact hl, fun d hd => ?_⟩
      obtain ⟨c, hc, rfl⟩ := List.mem_map.mp hd
      exact pn_C (hn c hc)
    · exact hI _
    · exact hI _
  · obtain ⟨s, _, h⟩ := List.mem_flatMap.mp h
    simp only [List.mem_cons, List.not_mem_nil, or_false] at h
    rcases h with rfl | rfl
    · exact hI _
    · exact hI _
theorem sm_Q {Q : List (List D)} (hl : Q.length ≤ 1000000) (h : ∀ q ∈ Q, q.length ≤ 800 ∧ ∀ d ∈ q, Pn 4 d) : Sm 8 (.lst (Q.map oL)) (.lst (Q.map .lst)) := by
  refine Sm.up (Sm.up (.lst (n := 5) (by simp) (by simpa using hl) fun i x d e1 e2 => ?_))
  rw [List.getElem?_map] at e1 e2
  cases e : Q[i]? with
  | none => rw [e] at e1; cases e1
  | some q =>
    rw [e] at e1 e2
    cases e1; cases e2
    have := h q (List.mem_of_getElem? e)
    exact sm_oL (by omega) this.2
theorem ixI_eq {f : Cr → Bool} {cs : List Cr} : (((List.range cs.length).filter fun k => (cs[k]?).any f).map fun k : Nat => D.int (k : Int)) = ixI f cs := by
  unfold ixI idxs
  rw [List.map_map]
  rfl
def sp_ulaw_as_due (a_Lineage : Addr) : SpD := fun as R => ∃ (cs : List Cr) (many : Nat) (ins outs : List (List Int)), as = [.brt (linO a_Lineage cs ins outs), .brt (bookO cs many)] ∧ LinOk cs many ins outs ∧ cs.length ≤ 800 ∧ many ≤ 800 ∧ R (.val (.bl true))
theorem ok_ulaw_as_due {Pr : Program} {wd : World} {K : PySem.W.Frag} {mg : Str → Option Value} {base : Heap} {a_Lineage : Addr} (z : Bl mg) (c_ulaw_same : Cal Pr wd K mg base "_law_same" 9 ["told", "due"] (spD K (sp_ulaw_same a_Lineage 8))) (c_Lineage_carrier : CalE Pr wd K mg base a_Lineage "carrier" 1 ["self", "index"] (spD K (sp_Lineage_carrier a_Lineage))) (c_Lineage_stations : CalE Pr wd K mg base a_Lineage "stations" 1 ["self"] (spD K (sp_Lineage_stations a_Lineage))) (c_Lineage_leaving : CalE Pr wd K mg base a_Lineage "leaving" 1 ["self", "station"] (spD K (sp_Lineage_leaving a_Lineage))) (c_Lineage_entering : CalE Pr wd K mg base a_Lineage "entering" 1 ["self", "station"] (spD K (sp_Lineage_entering a_Lineage))) (c_ulaw_open : Cal Pr wd K mg base "_law_open" 1 ["book"] (spD K (sp_ulaw_open a_Lineage))) (c_Lineage_present : CalE Pr wd K mg base a_Lineage "present" 1 ["self"] (spD K (sp_Lineage_present a_Lineage))) (c_Lineage_outside : CalE Pr wd K mg base a_Lineage "outside" 1 ["self"] (spD K (sp_Lineage_outside a_Lineage))) (c_Lineage_carriers : CalE Pr wd K mg base a_Lineage "carriers" 1 ["self"] (spD K (sp_Lineage_carriers a_Lineage)))  {f : Addr} {fd : FuncData} (F : Fun K "_law_as_due" "_law_as_due" s_ulaw_as_due f fd) : FnOk Pr wd K mg base CX0 10 f fd ["lineage", "book"] (spD K (sp_ulaw_as_due a_Lineage)) := by
  refine okD F sc_ulaw_as_due (fun as R h => ?_) (fun cdv A outer s H E hr => ⟨_, (pss_cons (ps_set (i := 2) sc_ulaw_as_due.nd rfl (by first | exact Or.inl rfl | exact Or.inr rfl) (pe_dgetO (hu64 hr) (pv 1) pe_str (fun _ _ => rfl)))
      (pss_cons (ps_set (i := 3) sc_ulaw_as_due.nd rfl (by first | exact Or.inl rfl | exact Or.inr rfl) (pe_lst (pa_cons (pe_mthC0 c_Lineage_carriers (hr.mono (by decide)) (pv 0)) (pa_cons (pe_mthC0 c_Lineage_outside (hr.mono (by decide)) (pv 0)) (pa_cons (pe_mthC0 c_Lineage_present (hr.mono (by decide)) (pv 0)) pa_nil)))))
      (pss_cons (ps_set (i := 4) sc_ulaw_as_due.nd rfl (by first | exact Or.inl rfl | exact Or.inr rfl) (pe_lst (pa_cons (pe_callTy (b_list (K := K)) (by rfl) z.list' (by decide +kernel) (pa_cons (pv 2) pa_nil)) (pa_cons (pe_lc (own := [("k", 5)]) rfl sc_ulaw_as_due.nd (pi_range1 (by rfl) z.range' (pa_cons (pe_callB (b_len (K := K)) (by rfl) z.len' (by decide +kernel) (pa_cons (pv 2) pa_nil)) pa_nil)) (blkOk_by (own := [("k", 5)]) (N := N_ulaw_as_due) (sc := defScope s_ulaw_as_due) (by decide +kernel)) (fun _ _ _ _ _ => (pg_name (i := 5) sc_ulaw_as_due.nd rfl (by first | exact Or.inl rfl | exact Or.inr rfl))) (fun _ _ _ _ _ => (pts_one (pt_cmpR g_is (pe_ix (g_ix (K := K)) (pe_ix (g_ix (K := K)) (pv 2) (pv 5) (fun _ _ => rfl)) pe_int (fun _ _ => rfl)) pe_non (nomark _)))) (fun _ _ _ _ _ => (pv 5))) (pa_cons (pe_cal c_ulaw_open (hr.mono (by decide)) (by rfl) (pa_cons (pv 1) pa_nil)) pa_nil)))))
      (pss_cons (ps_for PassesOwn.never rfl (pi_range1 (by rfl) z.range' (pa_cons (pe_dgetO (hu64 hr) (pv 1) pe_str (fun _ _ => rfl)) pa_nil)) (pg_name (i := 6) sc_ulaw_as_due.nd rfl (by first | exact Or.inl rfl | exact Or.inr rfl))
      (pss_cons (ps_expr (pe_bm PySem.F.plainAttrs_list PySem.F.slot_list_append PySem.F.type_list_append mt_append (pv 3) (pa_cons (pe_mthC c_Lineage_entering (hr.mono (by decide)) (pv 0) (pa_cons (pv 6) pa_nil)) pa_nil)))
      (pss_cons (ps_expr (pe_bm PySem.F.plainAttrs_list PySem.F.slot_list_append PySem.F.type_list_append mt_append (pv 4) (pa_cons (pe_lc (own := [("k", 5)]) rfl sc_ulaw_as_due.nd (pi_range1 (by rfl) z.range' (pa_cons (pe_callB (b_len (K := K)) (by rfl) z.len' (by decide +kernel) (pa_cons (pv 2) pa_nil)) pa_nil)) (blkOk_by (own := [("k", 5)]) (N := N_ulaw_as_due) (sc := defScope s_ulaw_as_due) (by decide +kernel)) (fun _ _ _ _ _ => (pg_name (i := 5) sc_ulaw_as_due.nd rfl (by first | exact Or.inl rfl | exact Or.inr rfl))) (fun _ _ _ _ _ => (pts_one (pt_cmpR (g_eq (K := K) (hu64 hr)) (pe_ix (g_ix (K := K)) (pe_ix (g_ix (K := K)) (pv 2) (pv 5) (fun _ _ => rfl)) pe_int (fun _ _ => rfl)) (pv 6) (nomark _)))) (fun _ _ _ _ _ => (pv 5))) pa_nil)))
      (pss_cons (ps_expr (pe_bm PySem.F.plainAttrs_list PySem.F.slot_list_append PySem.F.type_list_append mt_append (pv 3) (pa_cons (pe_mthC c_Lineage_leaving (hr.mono (by decide)) (pv 0) (pa_cons (pv 6) pa_nil)) pa_nil)))
      (pss_one (ps_expr (pe_bm PySem.F.plainAttrs_list PySem.F.slot_list_append PySem.F.type_list_append mt_append (pv 4) (pa_cons (pe_lc (own := [("k", 5)]) rfl sc_ulaw_as_due.nd (pi_range1 (by rfl) z.range' (pa_cons (pe_callB (b_len (K := K)) (by rfl) z.len' (by decide +kernel) (pa_cons (pv 2) pa_nil)) pa_nil)) (blkOk_by (own := [("k", 5)]) (N := N_ulaw_as_due) (sc := defScope s_ulaw_as_due) (by decide +kernel)) (fun _ _ _ _ _ => (pg_name (i := 5) sc_ulaw_as_due.nd rfl (by first | exact Or.inl rfl | exact Or.inr rfl))) (fun _ _ _ _ _ => (pts_one (pt_cmpR (g_eq (K := K) (hu64 hr)) (pe_ix (g_ix (K := K)) (pe_ix (g_ix (K := K)) (pv 2) (pv 5) (fun _ _ => rfl)) pe_int (fun _ _ => rfl)) (pv 6) (nomark _)))) (fun _ _ _ _ _ => (pv 5))) pa_nil))))))))
      (pss_cons (ps_if (PW.pt (pw_or (pt_not (pt_tr (K := K) (pe_cal c_ulaw_same (hr.mono (by decide)) (by rfl) (pa_cons (pv 3) (pa_cons (pv 4) pa_nil))) (by intro _; rfl))) (pw_or1 (pt_not (pt_tr (K := K) (pe_cal c_ulaw_same (hr.mono (by decide)) (by rfl) (pa_cons (pe_mthC0 c_Lineage_stations (hr.mono (by decide)) (pv 0)) (pa_cons (pe_dgetO (hu64 hr) (pv 1) pe_str (fun _ _ => rfl)) pa_nil))) (by intro _; rfl))))))
      (pss_one (ps_ret pe_bl))
      pss_nil)
      (pss_cons (ps_for PassesOwn.never rfl (pi_range1 (by rfl) z.range' (pa_cons (pe_callB (b_len (K := K)) (by rfl) z.len' (by decide +kernel) (pa_cons (pv 2) pa_nil)) pa_nil)) (pg_name (i := 5) sc_ulaw_as_due.nd rfl (by first | exact Or.inl rfl | exact Or.inr rfl))
      (pss_one (ps_if (pt_not (pt_tr (K := K) (pe_cal c_ulaw_same (hr.mono (by decide)) (by rfl) (pa_cons (pe_mthC c_Lineage_carrier (hr.mono (by decide)) (pv 0) (pa_cons (pv 5) pa_nil)) (pa_cons (pe_ix (g_ix (K := K)) (pv 2) (pv 5) (fun _ _ => rfl)) pa_nil))) (by intro _; rfl)))
      (pss_one (ps_ret pe_bl))
      pss_nil)))
      (pss_cons (ps_for PassesOwn.never rfl (pi_seqK (K := K) (pv 3)) (pg_name (i := 7) sc_ulaw_as_due.nd rfl (by first | exact Or.inl rfl | exact Or.inr rfl))
      (pss_cons (ps_expr (pe_bm PySem.F.plainAttrs_list PySem.F.slot_list_insert PySem.F.type_list_insert mt_ins (pv 7) (pa_cons pe_int (pa_cons pe_int pa_nil))))
      (pss_one (ps_expr (pe_bm PySem.F.plainAttrs_list PySem.F.slot_list_append PySem.F.type_list_append mt_append (pv 7) (pa_cons pe_int pa_nil))))))
      (pss_one (ps_ret pe_bl))))))))), fun as R h => ?_⟩)
  · obtain ⟨_, _, _, _, rfl, _⟩ := h; rfl
  · obtain ⟨cs, many, ins, outs, rfl, ok, hl, hm, h⟩ := h
    have hli := ok.li
    have hlo := ok.lo
    walk_at "init"
    refine wp_seq ?_
    refine wp_asgS (es_dgS (es_brt rfl ⟨_, oL (cs.map encC), rfl, rfl, ?_⟩))
    walk_at "nrm"
    have hcomp : ∀ (f : Cr → Bool) (j : Int) (env : List Sl) (tt : TT) (P : Sl → Prop), env[2]? = some (.brt (oL (cs.map encC))) → env.length = 8 →
        (∀ (k : Nat) (hk : k < cs.length), EvT K tt ((wipeS env [5]).set 5 (.val (.int (k : Int)))) fun b => b = f (cs[k]'hk)) →
        P (.own (oL (ixI f cs))) → EvE K (tLc (iRng1 (tCons (tCB (rLenG K) (tCons (tVar 2) tNil)) tNil)) (gName 5) tt (tVar 5) [5]) env P := by
      intro f j env tt P he hel ht hP
      refine ev_filtE (fun k : Nat => .int (k : Int)) (fun k : Nat => (cs[k]?).any f) (fun k : Nat => .int (k : Int)) (List.range cs.length) (by simp; omega) (ei_rng1 ?_) (fun k hk => ⟨_, .name, by simp, ?_, fun _ => ?_⟩) ?_
      · refine eva_cons (ev_cb (eva_cons (x_brt ⟨_, he, eva_nil (x_lenM (by constructor) (eva_nil ⟨_, rfl, by omega, by omega, ?_⟩))⟩)))
        unfold rngD
        simp
      · have hk := List.mem_range.mp hk
        rw [List.getElem?_eq_getElem hk]
        exact ht k hk
      · refine x_val ⟨_, ?_, Frz.val⟩
        show ((wipeS env [5]).set 5 _)[5]? = _
        rw [List.getElem?_set_self (by simp [wipeS]; omega)]
      · rw [ixI_eq]
        exact hP
    have hat : ∀ (k : Nat) (hk : k < cs.length), cs[((k : Nat) : Int).toNat]? = some (cs[k]'hk) := fun k hk => List.getElem?_eq_getElem hk
    refine wp_seq ?_
    refine wp_asg ?_
    refine ev_lstO ?_
    (repeat (first | (with_reducible refine eos_own ?_) | (with_reducible refine eos_nil ?_) | walk_at "e1"))
    refine ⟨.own _, ?_⟩
    walk_at "nrm"
    refine wp_seq ?_
    refine wp_asg ?_
    refine ev_lstO ?_
    (repeat (first | (with_reducible refine eos_own ?_) | (with_reducible refine eos_nil ?_) | walk_at "e1"))
    refine hcomp (fun c => c.fr.isNone) 0 _ _ _ rfl rfl (fun k hk => ?_) ?_
    · have hk' := hat k hk
      walk_at "nrm"
      (repeat walk_at "e1")
      first | exact oi_non _ | exact ⟨_, rfl, oi_non _⟩
    refine ⟨_, rfl, ?_⟩
    (repeat (first | (with_reducible refine eos_own ?_) | (with_reducible refine eos_nil ?_) | walk_at "e1"))
    refine ⟨.own _, ?_⟩
    walk_at "nrm"
    show Wp K _ [.brt (linO a_Lineage cs ins outs), .brt (bookO cs many), .brt (oL (cs.map encC)), .own (.lst ((allQ cs 0).map oL)), .own (.lst ((allQ cs 0).map oL)), .un, .un, .un] _
    refine wp_seq ?_
    refine wp_for (fun i e => ∃ s5 s6 : Sl, e = [.brt (linO a_Lineage cs ins outs), .brt (bookO cs many), .brt (oL (cs.map encC)), .own (.lst ((allQ cs i).map oL)), .own (.lst ((allQ cs i).map oL)), s5, s6, .un]) (rngD 0 many) (ei_rng1 ?_) ⟨_, _, rfl⟩ ?_ ?_
    · (repeat walk_at "e1")
      exact ⟨by omega, by omega, by simp⟩
    · rintro i d env' hdi ⟨s5, s6, rfl⟩
      obtain ⟨hi, rfl⟩ := rng_at hdi
      rw [Int.zero_add]
      have hll := allQ_len (cs := cs) (i := i)
      refine ⟨_, .name, ?_⟩
      walk_at "nrm"
      refine wp_seq ?_
      refine wp_appO ?_
      (repeat walk_at "e1")
      refine ⟨by rw [List.length_map]; omega, ?_⟩
      (repeat walk_at "e1")
      walk_at "nrm"
      refine wp_seq ?_
      refine wp_appO ?_
      (repeat walk_at "e1")
      refine ⟨by rw [List.length_map]; omega, ?_⟩
      refine hcomp (fun c => c.tk == some (i : Int)) 0 _ _ _ rfl rfl (fun k hk => ?_) ⟨_, rfl, ?_⟩
      · have hk' := hat k hk
        walk_at "nrm"
        (repeat walk_at "e1")
        refine d_eqO (b := some (i : Int)) ?_
        exact ⟨_, rfl, by rw [Bool.eq_iff_iff]; simp⟩
      walk_at "nrm"
      refine wp_seq ?_
      refine wp_appO ?_
      (repeat walk_at "e1")
      refine ⟨by simp; omega, ?_⟩
      (repeat walk_at "e1")
      walk_at "nrm"
      refine wp_appO ?_
      (repeat walk_at "e1")
      refine ⟨by simp; omega, ?_⟩
      refine hcomp (fun c => c.fr == some (i : Int)) 0 _ _ _ rfl rfl (fun k hk => ?_) ⟨_, rfl, ?_⟩
      · have hk' := hat k hk
        walk_at "nrm"
        (repeat walk_at "e1")
        refine d_eqO (b := some (i : Int)) ?_
        exact ⟨_, rfl, by rw [Bool.eq_iff_iff]; simp⟩
      walk_at "nrm"
      refine ⟨s5, .val (.int (i : Int)), ?_⟩
      rw [allQ_succ, List.map_append, List.map_append]
      rfl
    · rintro env' ⟨s5, s6, rfl⟩
      rw [rng_len]
      have hok := allQ_ok (i := many) ok.nm hl
      have hll := allQ_len (cs := cs) (i := many)
      have hsm := sm_Q (by omega) hok
      refine wp_seq ?_
      refine wp_if ?_
      (repeat walk_at "e1")
      refine ⟨_, .cons .brt (.cons .brt .nil), .lst ((allQ cs many).map oL), .lst ((allQ cs many).map oL), _, rfl, hsm, hsm, true, rfl, ?_⟩
      (repeat' (first | walk_at "e1" | walk_at "br" | fail))
      rw [hli]
      (repeat' (first | walk_at "e1" | walk_at "br" | fail))
      refine wp_next ?_
      refine wp_seq ?_
      refine wp_for (fun _ e => ∃ s5 : Sl, e = [.brt (linO a_Lineage cs ins outs), .brt (bookO cs many), .brt (oL (cs.map encC)), .own (.lst ((allQ cs many).map oL)), .own (.lst ((allQ cs many).map oL)), s5, s6, .un]) (rngD 0 cs.length) (ei_rng1 ?_) ⟨_, rfl⟩ ?_ ?_
      · (repeat walk_at "e1")
        exact ⟨by omega, by omega, by simp⟩
      · rintro i d env' hdi ⟨s5, rfl⟩
        obtain ⟨hi, rfl⟩ := rng_at hdi
        rw [Int.zero_add]
        have hk' := hat i hi
        have hcn := ok.nm _ (List.getElem_mem hi)
        refine ⟨_, .name, ?_⟩
        walk_at "nrm"
        refine wp_if ?_
        (repeat' (first | walk_at "e1" | walk_at "br" | fail))
        exact wp_next ⟨_, rfl⟩
      rintro env' ⟨s5, rfl⟩
      refine wp_seq ?_
      refine wp_forO (3 + 2 * many) (fun k e => ∃ (xs : List OT) (s7 : Sl), e = [.brt (linO a_Lineage cs ins outs), .brt (bookO cs many), .brt (oL (cs.map encC)), .own (.lst xs), .own (.lst ((allQ cs many).map oL)), s5, s6, s7] ∧ xs.length = 3 + 2 * many ∧ ∀ x ∈ xs, ∃ ds, x = oL ds ∧ ds.length ≤ 1000 + 2 * k) (by decide) (.seq (.drop _) (.drop _)) ⟨_, .inl rfl, by rw [List.length_map]; omega, _, _, rfl, by rw [List.length_map]; omega, fun x hx => ?_⟩ ?_ ?_
      · obtain ⟨q, hq, rfl⟩ := List.mem_map.mp hx
        exact ⟨q, rfl, by have := (hok q hq).1; omega⟩
      · rintro k env' hk ⟨xs, s7, rfl, hxl, hx⟩
        have hkx : k < xs.length := by omega
        obtain ⟨ds, hds, hdl⟩ := hx _ (List.getElem_mem hkx)
        refine ⟨xs, _, .inl rfl, hxl, List.getElem?_eq_getElem hkx, by simp, ?_⟩
        rw [hds]
        show Wp K _ [.un, .un, .un, .un, .un, .un, .un, .io (oL ds)] _
        refine wp_seq ?_
        refine wp_insV ⟨ds, .inr rfl, ?_⟩
        (repeat walk_at "e1")
        refine ⟨0, .int 7, rfl, by omega, by omega, ?_⟩
        walk_at "nrm"
        refine wp_appNL ?_
        (repeat walk_at "e1")
        refine ⟨by simp; omega, ?_⟩
        walk_at "ev"
        walk_at "nrm"
        refine ⟨_, _, rfl, by simpa using hxl, fun x hx2 => ?_⟩
        rcases List.mem_or_eq_of_mem_set hx2 with z | z
        · obtain ⟨es, e1, e2⟩ := hx x z
          exact ⟨es, e1, by omega⟩
        · exact ⟨_, z, by simp; omega⟩
      rintro env' ⟨xs, s7, rfl, _, _⟩
      walk_at "run"
      exact h
local macro_rules | `(tactic| walk_at "e1") => `(tactic| ((with_reducible show ∃ ts, Paired Co _ ts ∧ sp_ulaw_as_due _ ts _); refine ⟨_, .cons (by first | exact .brt | exact .ownT | exact .valT) (.cons (by first | exact .brt | exact .ownT | exact .valT) .nil), _, _, _, _, rfl, by assumption, by omega, by omega, ?_⟩))

/-! ### law -/
abbrev s_law : Stmt := topS 14
abbrev N_law : List Str := ["script", "first", "lineages", "books", "at", "k", "n", "turn"]
theorem sc_law : FnScope N_law ["script"] (defScope s_law) := ⟨rfl, rfl, rfl, by decide +kernel, rfl, by decide +kernel, by decide +kernel⟩
structure Ln where
  cs : List Cr
  many : Nat
  ins : List (List Int)
  outs : List (List Int)
def Ln.lin (C : Addr) (l : Ln) : OT := linO C l.cs l.ins l.outs
def Ln.book (l : Ln) : OT := bookO l.cs l.many
structure Ln.Ok (c : Nat) (l : Ln) : Prop where
  ok : LinOk l.cs l.many l.ins l.outs
  hc : l.cs.length ≤ c
  hm : l.many ≤ c
theorem Ln.Ok.up {c d : Nat} {l : Ln} (h : l.Ok c) (e : c ≤ d) : l.Ok d := ⟨h.ok, Nat.le_trans h.hc e, Nat.le_trans h.hm e⟩
structure Two (c : Nat) (ls : List Ln) : Prop where
  l : ls.length = 2
  ok : ∀ l ∈ ls, l.Ok c
theorem Two.up {c d : Nat} {ls : List Ln} (h : Two c ls) (e : c ≤ d) : Two d ls := ⟨h.l, fun l hl => (h.ok l hl).up e⟩
theorem Two.set {c : Nat} {ls : List Ln} {j : Nat} {l : Ln} (h : Two c ls) (hl : l.Ok (c + 1)) : Two (c + 1) (ls.set j l) := ⟨by simpa using h.l, fun x hx => by
  rcases List.mem_or_eq_of_mem_set hx with z | z
  · exact (h.ok x z).up (by omega)
  · subst z; exact hl⟩
theorem Two.ex {c : Nat} {ls : List Ln} (h : Two c ls) : ∃ l0 l1, ls = [l0, l1] ∧ l0.Ok c ∧ l1.Ok c := by
  match ls, h with
  | [l0, l1], h => exact ⟨l0, l1, rfl, h.ok _ (by simp), h.ok _ (by simp)⟩
  | [], h => exact absurd h.l (by decide)
  | [_], h => exact absurd h.l (by simp)
  | _ :: _ :: _ :: _, h => exact absurd h.l (by simp)
theorem two_nil : Two 0 [⟨[], 0, [], []⟩, ⟨[], 0, [], []⟩] := ⟨rfl, fun l hl => by
  have : l = ⟨[], 0, [], []⟩ := by simpa using hl
  subst this
  exact ⟨LinOk.nil, Nat.le_refl _, Nat.le_refl _⟩⟩
section
variable {K : PySem.W.Frag} {P : Sl → Prop} {C : Addr} {l : Ln} {b : OT}
theorem x_lin0 (p : P (.brt (linO C l.cs l.ins l.outs))) : RvP K (rIx K) (.brt (.lst [l.lin C, b])) (.val (.int 0)) P := sixTl .brt rfl p
theorem x_lin1 (p : P (.brt (linO C l.cs l.ins l.outs))) : RvP K (rIx K) (.brt (.lst [b, l.lin C])) (.val (.int 1)) P := sixTl .brt rfl p
theorem x_book0 (p : P (.brt (bookO l.cs l.many))) : RvP K (rIx K) (.brt (.lst [l.book, b])) (.val (.int 0)) P := sixTl .brt rfl p
theorem x_book1 (p : P (.brt (bookO l.cs l.many))) : RvP K (rIx K) (.brt (.lst [b, l.book])) (.val (.int 1)) P := sixTl .brt rfl p
end
theorem ev_book0 {K : PySem.W.Frag} {env : List Sl} {P : Sl → Prop} (p : P (.own (bookO [] 0))) : EvE K (tDisp [(tC (V.str (Str.ofString "rows")), tLst tNil), (tC (V.str (Str.ofString "many")), tC (V.int 0))]) env P := by
  refine ev_dispO (eps_own (ev_str ⟨.inr (Str.ofString "rows"), rfl, ?_⟩))
  refine x_lstD (evv_nil ⟨by decide, _, rfl, ?_⟩)
  exact eps_val (ev_str ⟨.inr (Str.ofString "many"), rfl, ev_int ⟨_, rfl, eps_nil ⟨by decide, by decide, p⟩⟩⟩)
local macro_rules | `(tactic| walk_at "two") => `(tactic| repeat' (first
  | (with_reducible refine x_lin0 ?_)
  | (with_reducible refine x_lin1 ?_)
  | (with_reducible refine x_book0 ?_)
  | (with_reducible refine x_book1 ?_)
  | walk_at "e1"
  | walk_at "br"
  | fail))
def sp_law (a_Lineage : Addr) : SpD := spLaw
theorem ok_law {Pr : Program} {wd : World} {K : PySem.W.Frag} {mg : Str → Option Value} {base : Heap} {a_Lineage : Addr} (z : Bl mg) (c_ulaw_as_due : Cal Pr wd K mg base "_law_as_due" 10 ["lineage", "book"] (spD K (sp_ulaw_as_due a_Lineage))) (c_ulaw_call : Cal Pr wd K mg base "_law_call" 11 ["lineage", "book", "n"] (spM K (sp_ulaw_call a_Lineage))) (c_ulaw_draw : Cal Pr wd K mg base "_law_draw" 2 ["script", "k", "many"] (spD K (sp_ulaw_draw a_Lineage))) (c_ulaw_numbers : Cal Pr wd K mg base "_law_numbers" 1 ["cell", "many"] (spD K (sp_ulaw_numbers a_Lineage))) (c_Lineage_uinit__ : CalM Pr wd K mg base "Lineage" a_Lineage 1 ["self"] (spM K (sp_Lineage_uinit__ a_Lineage))) (c_ulaw_cell : Cal Pr wd K mg base "_law_cell" 1 ["script", "k"] (spD K (sp_ulaw_cell a_Lineage)))  {f : Addr} {fd : FuncData} (F : Fun K "law" "law" s_law f fd) : FnOk Pr wd K mg base CX0 12 f fd ["script"] (spD K (sp_law a_Lineage)) := by
  refine okD F sc_law (fun as R h => ?_) (fun cdv A outer s H E hr => ⟨_, (pss_cons (ps_set (i := 1) sc_law.nd rfl (by first | exact Or.inl rfl | exact Or.inr rfl) (pe_cal c_ulaw_numbers (hr.mono (by decide)) (by rfl) (pa_cons (pe_cal c_ulaw_cell (hr.mono (by decide)) (by rfl) (pa_cons (pv 0) (pa_cons pe_int pa_nil))) (pa_cons pe_int pa_nil))))
      (pss_cons (ps_set (i := 2) sc_law.nd rfl (by first | exact Or.inl rfl | exact Or.inr rfl) (pe_lst (pa_cons (pe_mkC0 c_Lineage_uinit__ (hr.mono (by decide)) (by rfl)) (pa_cons (pe_mkC0 c_Lineage_uinit__ (hr.mono (by decide)) (by rfl)) pa_nil))))
      (pss_cons (ps_set (i := 3) sc_law.nd rfl (by first | exact Or.inl rfl | exact Or.inr rfl) (pe_lst (pa_cons (pe_disp (pps_cons pe_str (pe_lst pa_nil) (pps_cons pe_str pe_int pps_nil)) rfl rfl (by simp) (by decide)) (pa_cons (pe_disp (pps_cons pe_str (pe_lst pa_nil) (pps_cons pe_str pe_int pps_nil)) rfl rfl (by simp) (by decide)) pa_nil))))
      (pss_cons (ps_if (pt_cmpR (g_eq (K := K) (hu64 hr)) (pe_op g_mod (pe_ix (g_ix (K := K)) (pv 1) pe_int (fun _ _ => rfl)) pe_int) pe_int (nomark _))
      (pss_cons (ps_set (i := 4) sc_law.nd rfl (by first | exact Or.inl rfl | exact Or.inr rfl) (pe_op g_mod (pe_ix (g_ix (K := K)) (pv 1) pe_int (fun _ _ => rfl)) pe_int))
      (pss_one (ps_for PassesOwn.never rfl (pi_range1 (by rfl) z.range' (pa_cons (pe_op g_mod (pe_ix (g_ix (K := K)) (pv 1) pe_int (fun _ _ => rfl)) pe_int) pa_nil)) (pg_name (i := 5) sc_law.nd rfl (by first | exact Or.inl rfl | exact Or.inr rfl))
      (pss_one (ps_if (pt_not (pt_tr (K := K) (pe_cal c_ulaw_call (hr.mono (by decide)) (by rfl) (pa_cons (pe_ix (g_ix (K := K)) (pv 2) (pv 4) (fun _ _ => rfl)) (pa_cons (pe_ix (g_ix (K := K)) (pv 3) (pv 4) (fun _ _ => rfl)) (pa_cons (pe_fz (pe_cal c_ulaw_numbers (hr.mono (by decide)) (by rfl) (pa_cons (pe_callTy b_int (by rfl) z.int' (by decide +kernel) (pa_cons (pe_op (g_add (K := K)) (pe_op g_mul (pe_ix (g_ix (K := K)) (pv 1) pe_int (fun _ _ => rfl)) pe_int) (pe_op g_mul (pv 5) pe_int)) pa_nil)) (pa_cons pe_int pa_nil)))) pa_nil)))) (by intro _; rfl)))
      (pss_one (ps_ret pe_bl))
      pss_nil)))))
      pss_nil)
      (pss_cons (ps_for PassesOwn.never rfl (pi_range2 (by rfl) z.range' (pa_cons pe_int (pa_cons (pe_callB (b_min rfl) (by rfl) z.min' (by decide +kernel) (pa_cons pe_int (pa_cons (pe_callB (b_max rfl) (by rfl) z.max' (by decide +kernel) (pa_cons pe_int (pa_cons (pe_callB (b_len (K := K)) (by rfl) z.len' (by decide +kernel) (pa_cons (pv 0) pa_nil)) pa_nil))) pa_nil))) pa_nil))) (pg_name (i := 5) sc_law.nd rfl (by first | exact Or.inl rfl | exact Or.inr rfl))
      (pss_cons (ps_set (i := 6) sc_law.nd rfl (by first | exact Or.inl rfl | exact Or.inr rfl) (pe_fz (pe_cal c_ulaw_draw (hr.mono (by decide)) (by rfl) (pa_cons (pv 0) (pa_cons (pv 5) (pa_cons pe_int pa_nil))))))
      (pss_cons (ps_set (i := 4) sc_law.nd rfl (by first | exact Or.inl rfl | exact Or.inr rfl) (pe_op g_mod (pe_ix (g_ix (K := K)) (pv 6) pe_int (fun _ _ => rfl)) pe_int))
      (pss_cons (ps_if (pt_not (pt_tr (K := K) (pe_cal c_ulaw_call (hr.mono (by decide)) (by rfl) (pa_cons (pe_ix (g_ix (K := K)) (pv 2) (pv 4) (fun _ _ => rfl)) (pa_cons (pe_ix (g_ix (K := K)) (pv 3) (pv 4) (fun _ _ => rfl)) (pa_cons (pv 6) pa_nil)))) (by intro _; rfl)))
      (pss_one (ps_ret pe_bl))
      pss_nil)
      (pss_one (ps_if (PW.pt (pw_and (pt_cmpR (g_eq (K := K) (hu64 hr)) (pe_op g_mod (pv 5) pe_int) pe_int (nomark _)) (pw_and1 (pt_cmpR g_lt (pe_op (g_add (K := K)) (pe_callB (b_len (K := K)) (by rfl) z.len' (by decide +kernel) (pa_cons (pe_dgetO (hu64 hr) (pe_ix (g_ix (K := K)) (pv 3) pe_int (fun _ _ => rfl)) pe_str (fun _ _ => rfl)) pa_nil)) (pe_callB (b_len (K := K)) (by rfl) z.len' (by decide +kernel) (pa_cons (pe_dgetO (hu64 hr) (pe_ix (g_ix (K := K)) (pv 3) pe_int (fun _ _ => rfl)) pe_str (fun _ _ => rfl)) pa_nil))) pe_int (nomark _)))))
      (pss_one (ps_if (PW.pt (pw_or (pt_not (pt_tr (K := K) (pe_cal c_ulaw_as_due (hr.mono (by decide)) (by rfl) (pa_cons (pe_ix (g_ix (K := K)) (pv 2) pe_int (fun _ _ => rfl)) (pa_cons (pe_ix (g_ix (K := K)) (pv 3) pe_int (fun _ _ => rfl)) pa_nil))) (by intro _; rfl))) (pw_or1 (pt_not (pt_tr (K := K) (pe_cal c_ulaw_as_due (hr.mono (by decide)) (by rfl) (pa_cons (pe_ix (g_ix (K := K)) (pv 2) pe_int (fun _ _ => rfl)) (pa_cons (pe_ix (g_ix (K := K)) (pv 3) pe_int (fun _ _ => rfl)) pa_nil))) (by intro _; rfl))))))
      (pss_one (ps_ret pe_bl))
      pss_nil))
      pss_nil))))))
      (pss_cons (ps_for PassesOwn.never rfl (pi_range1 (by rfl) z.range' (pa_cons pe_int pa_nil)) (pg_name (i := 7) sc_law.nd rfl (by first | exact Or.inl rfl | exact Or.inr rfl))
      (pss_one (ps_if (PW.pt (pw_or (pt_not (pt_tr (K := K) (pe_cal c_ulaw_as_due (hr.mono (by decide)) (by rfl) (pa_cons (pe_ix (g_ix (K := K)) (pv 2) pe_int (fun _ _ => rfl)) (pa_cons (pe_ix (g_ix (K := K)) (pv 3) pe_int (fun _ _ => rfl)) pa_nil))) (by intro _; rfl))) (pw_or1 (pt_not (pt_tr (K := K) (pe_cal c_ulaw_as_due (hr.mono (by decide)) (by rfl) (pa_cons (pe_ix (g_ix (K := K)) (pv 2) pe_int (fun _ _ => rfl)) (pa_cons (pe_ix (g_ix (K := K)) (pv 3) pe_int (fun _ _ => rfl)) pa_nil))) (by intro _; rfl))))))
      (pss_one (ps_ret pe_bl))
      pss_nil)))
      (pss_one (ps_ret pe_bl)))))))), fun as R h => ?_⟩)
  · obtain ⟨_, rfl, _⟩ := h; rfl
  · obtain ⟨sc, rfl, hsl, h⟩ := h
    walk_at "init"
    walk_at "asg"
    rename_i fs hfl hfb
    refine wp_seq ?_
    refine wp_asg ?_
    refine ev_lstO ?_
    (repeat (first | (with_reducible refine eos_own ?_) | (with_reducible refine eos_nil ?_) | walk_at "e1"))
    refine ⟨rfl, _, rfl, _, rfl, ?_⟩
    (repeat (first | (with_reducible refine eos_own ?_) | (with_reducible refine eos_nil ?_) | walk_at "e1"))
    refine ⟨rfl, _, rfl, _, rfl, ?_⟩
    (repeat (first | (with_reducible refine eos_own ?_) | (with_reducible refine eos_nil ?_) | walk_at "e1"))
    refine ⟨.own _, ?_⟩
    walk_at "nrm"
    refine wp_seq ?_
    refine wp_asg ?_
    refine ev_lstO ?_
    (repeat (first | (with_reducible refine ev_book0 ?_) | (with_reducible refine eos_own ?_) | (with_reducible refine eos_nil ?_) | walk_at "e1"))
    refine ⟨.own _, ?_⟩
    walk_at "nrm"
    -- one call
    have hcall : ∀ (c : Nat) (ls : List Ln) (at_ : Nat) (env : List Sl) (te : TE) (t u : TS) (Pp : Post), env[2]? = some (.own (.lst (ls.map (Ln.lin a_Lineage)))) → env[3]? = some (.own (.lst (ls.map Ln.book))) → env[4]? = some (.val (.int (at_ : Int))) → at_ < 2 → Two c ls → c ≤ 800 →
        EvE K te env (fun s => ∃ ns : List Int, s = .val (.lst (ns.map .int)) ∧ ns.length = 10 ∧ ∀ x ∈ ns, 0 ≤ x ∧ x < 1000) →
        (∀ l', l'.Ok (c + 1) → Wp K u (putM env [(2, .lst ((ls.set at_ l').map (Ln.lin a_Lineage))), (3, .lst ((ls.set at_ l').map Ln.book))]) Pp) →
        Wp K (tIfS (tNot (tTruth K (tCall (spM K (sp_ulaw_call a_Lineage)) [] E0 (tCons (tOp (rIx K) (tVar 2) (tVar 4)) (tCons (tOp (rIx K) (tVar 3) (tVar 4)) (tCons te tNil)))))) t u) env Pp := by
      intro c ls at_ env te t u Pp e2 e3 e4 hat two hc hte hk
      have hl := two.l
      obtain ⟨l, hg⟩ : ∃ l, ls[at_]? = some l := ⟨_, List.getElem?_eq_getElem (by omega)⟩
      obtain ⟨ok, h1, h2⟩ := two.ok l (List.mem_of_getElem? hg)
      refine wpf_if (eft_not (eft_tr (ef_em (em_callNd ?_))))
      refine na_cons (en_ixL (en_var (.inl e2) ⟨_, rfl, x_val ⟨_, e4, (at_ : Int), at_, l.lin a_Lineage, rfl, ixN_nat (by rw [List.length_map]; omega), by rw [List.getElem?_map, hg]; rfl, ?_⟩⟩))
      refine na_cons (en_ixL (en_var (.inl e3) ⟨_, rfl, x_val ⟨_, e4, (at_ : Int), at_, l.book, rfl, ixN_nat (by rw [List.length_map]; omega), by rw [List.getElem?_map, hg]; rfl, ?_⟩⟩))
      refine na_data (eva_cons (hte.imp fun s es => ?_))
      obtain ⟨ns, rfl, hns, hnb⟩ := es
      refine eva_nil ⟨[_], rfl, by simp, l.cs, l.many, l.ins, l.outs, ns, rfl, ok, by omega, by omega, hns, hnb, fun cs' many' ins' outs' ok' hc' hm' => ⟨[_, _], _, rfl, rfl, ?_⟩⟩
      have key := hk ⟨cs', many', ins', outs'⟩ ⟨ok', by show cs'.length ≤ _; omega, by show many' ≤ _; omega⟩
      refine ⟨by simp [putM_len], _, rfl, true, rfl, fun z => (nomatch z), fun _ => ?_⟩
      rw [List.map_set, List.map_set] at key
      exact key
    have hf4 : fs.length = 4 := hfl
    show Wp K _ [.scr (sc.map .int), .own (oL (fs.map .int)), .own (.lst (([⟨[], 0, [], []⟩, ⟨[], 0, [], []⟩] : List Ln).map (Ln.lin a_Lineage))), .own (.lst (([⟨[], 0, [], []⟩, ⟨[], 0, [], []⟩] : List Ln).map Ln.book)), .un, .un, .un, .un] _
    refine wp_seq ?_
    refine wp_cut (fun e => ∃ (ls : List Ln) (s4 s5 : Sl), e = [.scr (sc.map .int), .own (oL (fs.map .int)), .own (.lst (ls.map (Ln.lin a_Lineage))), .own (.lst (ls.map Ln.book)), s4, s5, .un, .un] ∧ Two 250 ls) ?_ ?_
    · refine wp_if ?_
      (repeat' (first | walk_at "e1" | walk_at "br" | fail))
      · walk_at "asg"
        rename_i y y0 y1
        obtain ⟨a, ha⟩ : ∃ a : Nat, (a : Int) = y % 2 := ⟨(y % 2).toNat, by omega⟩
        rw [← ha]
        have ha2 : a < 2 := by omega
        clear ha
        refine wp_forP (fun _ i e => ∃ (ls : List Ln) (s5 : Sl), e = [.scr (sc.map .int), .own (oL (fs.map .int)), .own (.lst (ls.map (Ln.lin a_Lineage))), .own (.lst (ls.map Ln.book)), .val (.int (a : Int)), s5, .un, .un] ∧ Two i ls) (Pd := fun ys => ∃ m : Nat, ys = rngD 0 m ∧ m ≤ 250) (ei_rng1 ?_) (fun ys _ => ⟨_, _, rfl, two_nil⟩) ?_ ?_
        · (repeat walk_at "e1")
          exact ⟨by omega, by omega, _, rfl, by omega⟩
        · rintro ys ⟨m, rfl, hm⟩ i d env' hdi ⟨ls, s5, rfl, two⟩
          obtain ⟨hi, rfl⟩ := rng_at hdi
          refine ⟨_, .name, ?_⟩
          walk_at "nrm"
          refine hcall i ls a _ _ _ _ _ rfl rfl rfl ha2 two (by omega) ?_ (fun l' ok' => wp_next ?_)
          · refine ev_fz ?_
            (repeat walk_at "e1")
            rename_i ns hns hnb
            exact ⟨_, _, rfl, TZ.oL _, ns, rfl, hns, hnb⟩
          · exact ⟨ls.set a l', _, rfl, two.set ok'⟩
        · rintro ys ⟨m, rfl, hm⟩ env' ⟨ls, s5, rfl, two⟩
          rw [rng_len] at two
          exact ⟨ls, _, _, rfl, two.up hm⟩
      · exact wp_next ⟨_, _, _, rfl, two_nil.up (by omega)⟩
    rintro _ ⟨ls0, s4, s5, rfl, two0⟩
    -- all that is told
    have hdue : ∀ (c : Nat) (ls : List Ln) (s4 s5 s6 s7 : Sl) (u : TS) (Pp : Post), Two c ls → c ≤ 800 →
        Wp K u [.scr (sc.map .int), .own (oL (fs.map .int)), .own (.lst (ls.map (Ln.lin a_Lineage))), .own (.lst (ls.map Ln.book)), s4, s5, s6, s7] Pp →
        Wp K (tIfS (tOr (tNot (tTruth K (tCall (spD K (sp_ulaw_as_due a_Lineage)) [] E0 (tCons (tOp (rIx K) (tVar 2) (tC (V.int 0))) (tCons (tOp (rIx K) (tVar 3) (tC (V.int 0))) tNil))))) (tNot (tTruth K (tCall (spD K (sp_ulaw_as_due a_Lineage)) [] E0 (tCons (tOp (rIx K) (tVar 2) (tC (V.int 1))) (tCons (tOp (rIx K) (tVar 3) (tC (V.int 1))) tNil)))))) (tRet (tC (V.bl false))) u)
          [.scr (sc.map .int), .own (oL (fs.map .int)), .own (.lst (ls.map (Ln.lin a_Lineage))), .own (.lst (ls.map Ln.book)), s4, s5, s6, s7] Pp := by
      intro c ls s4 s5 s6 s7 u Pp two hc hu
      obtain ⟨l0, l1, rfl, ⟨ok0, c0, m0⟩, ⟨ok1, c1, m1⟩⟩ := two.ex
      show Wp K _ [.scr (sc.map .int), .own (oL (fs.map .int)), .own (.lst [l0.lin a_Lineage, l1.lin a_Lineage]), .own (.lst [l0.book, l1.book]), s4, s5, s6, s7] Pp
      refine wp_if ?_
      walk_at "two"
      exact hu
    refine wp_seq ?_
    refine wp_forP (fun _ i e => ∃ (ls : List Ln) (s4 s5 s6 : Sl), e = [.scr (sc.map .int), .own (oL (fs.map .int)), .own (.lst (ls.map (Ln.lin a_Lineage))), .own (.lst (ls.map Ln.book)), s4, s5, s6, .un] ∧ Two (250 + i) ls) (Pd := fun ys => ∃ m : Nat, ys = rngD 1 m ∧ m ≤ 61) (ei_rng2 ?_) (fun ys _ => ⟨ls0, _, _, _, rfl, two0⟩) ?_ ?_
    · (repeat walk_at "e1")
      exact ⟨1, _, rfl, by omega, by omega, by (repeat' split) <;> omega, by (repeat' split) <;> omega, _, rfl, by (repeat' split) <;> omega⟩
    · rintro ys ⟨m, rfl, hm⟩ i d env' hdi ⟨ls, s4, s5, s6, rfl, two⟩
      obtain ⟨hi, rfl⟩ := rng_at hdi
      refine ⟨_, .name, ?_⟩
      walk_at "nrm"
      refine wp_seq ?_
      refine wp_asg ?_
      refine ev_fz ?_
      (repeat walk_at "e1")
      rename_i ns hns hnb
      have hns : ns.length = 10 := hns
      refine ⟨_, _, rfl, TZ.oL _, .val _, ?_⟩
      walk_at "nrm"
      walk_at "asg"
      rename_i y y0 y1
      obtain ⟨a, ha⟩ : ∃ a : Nat, (a : Int) = y % 2 := ⟨(y % 2).toNat, by omega⟩
      rw [← ha]
      have ha2 : a < 2 := by omega
      clear ha
      refine wp_seq ?_
      refine hcall (250 + i) ls a _ _ _ _ _ rfl rfl rfl ha2 two (by omega) (x_val ⟨_, rfl, ns, rfl, hns, hnb⟩) (fun l' ok' => wp_next ?_)
      have two' : Two (250 + (i + 1)) (ls.set a l') := two.set ok'
      dsimp only [putM]
      walk_at "nrm"
      generalize ls.set a l' = ls2 at two' ⊢
      obtain ⟨l0, l1, rfl, q0, q1⟩ := two'.ex
      show Wp K _ [.scr (sc.map .int), .own (oL (fs.map .int)), .own (.lst [l0.lin a_Lineage, l1.lin a_Lineage]), .own (.lst [l0.book, l1.book]), _, _, _, .un] _
      refine wp_if ?_
      walk_at "two"
      all_goals first
        | exact wp_next ⟨[l0, l1], _, _, _, rfl, two'⟩
        | exact hdue (250 + (i + 1)) [l0, l1] _ _ _ _ _ _ two' (by omega) (wp_next ⟨[l0, l1], _, _, _, rfl, two'⟩)
        | trace_state
    rintro ys ⟨m, rfl, hm⟩ env' ⟨ls, s4, s5, s6, rfl, two⟩
    rw [rng_len] at two
    refine wp_seq ?_
    refine wp_for (fun _ e => ∃ s7 : Sl, e = [.scr (sc.map .int), .own (oL (fs.map .int)), .own (.lst (ls.map (Ln.lin a_Lineage))), .own (.lst (ls.map Ln.book)), s4, s5, s6, s7]) (rngD 0 2) (ei_rng1 ?_) ⟨_, rfl⟩ ?_ ?_
    · (repeat walk_at "e1")
      exact ⟨by omega, by omega, rfl⟩
    · rintro i d env' hdi ⟨s7, rfl⟩
      obtain ⟨hi, rfl⟩ := rng_at hdi
      refine ⟨_, .name, ?_⟩
      walk_at "nrm"
      exact hdue _ ls _ _ _ _ _ _ two (by omega) (wp_next ⟨_, rfl⟩)
    rintro env' ⟨s7, rfl⟩
    walk_at "run"
    exact h
end Law

namespace Law
open PySem L2 DL
theorem all_mk {l : PySem.W.OpenLaw} {wd : World} {K : PySem.W.Frag} {h : Heap} {mg : Str → Option Value} {fa : Addr} (X : K.In h) (G : h.Ns mainGlobals mg) (hfa : mg "law" = some (.ref fa))
    {a_Lineage : Addr} (g_Lineage : PySem.W.nsIn K mainGlobals "Lineage" = some (some (.ref a_Lineage))) (pg_Lineage : PySem.W.plainGet K a_Lineage Str.empty = true) (hd_Lineage : PySem.W.hasDictIn K a_Lineage = true) (po_Lineage : PySem.W.plainOver K a_Lineage = true) (sa_Lineage : PySem.W.findIn K (.ref a_Lineage) "__setattr__" = some (some (.builtin "object.__setattr__"))) (mk_Lineage : PySem.W.makesIn K a_Lineage = true) (kc_Lineage : PySem.W.keepIn K (.ref a_Lineage) = true)
    (n_Lineage_uouts : PySem.W.findIn K (.ref a_Lineage) "_outs" = some none)
    (n_Lineage_uins : PySem.W.findIn K (.ref a_Lineage) "_ins" = some none)
    (n_Lineage_ucarriers : PySem.W.findIn K (.ref a_Lineage) "_carriers" = some none)
    {f0 : Addr} {od0 an0 : Option Addr} {sl0 : Array (Option Value)} {oc0 kV0 dc0 pm0 cd0 ct0 : Value}
    (a0 : PySem.W.findIn K (.ref a_Lineage) "__init__" = some (some (.ref f0))) (i0 : PySem.W.isFn K (.ref f0) = true)
    (l0 : K.lookup f0 = some ⟨oc0, od0, .func (PySem.W.fnOf "__init__" "Lineage.__init__" (defArgs s_Lineage_uinit__) (defBody s_Lineage_uinit__) (defScope s_Lineage_uinit__) .none kV0 dc0 pm0 an0 cd0 ct0), sl0⟩) (c0 : PySem.W.codeIn K cd0 "Lineage.__init__" = true) (k0 : PySem.W.keepIn K (.ref f0) = true)
    {f1 : Addr} {od1 an1 : Option Addr} {sl1 : Array (Option Value)} {oc1 kV1 dc1 pm1 cd1 ct1 : Value}
    (a1 : PySem.W.findIn K (.ref a_Lineage) "station" = some (some (.ref f1))) (i1 : PySem.W.isFn K (.ref f1) = true)
    (l1 : K.lookup f1 = some ⟨oc1, od1, .func (PySem.W.fnOf "station" "Lineage.station" (defArgs s_Lineage_station) (defBody s_Lineage_station) (defScope s_Lineage_station) .none kV1 dc1 pm1 an1 cd1 ct1), sl1⟩) (c1 : PySem.W.codeIn K cd1 "Lineage.station" = true) (k1 : PySem.W.keepIn K (.ref f1) = true)
    {f2 : Addr} {od2 an2 : Option Addr} {sl2 : Array (Option Value)} {oc2 kV2 dc2 pm2 cd2 ct2 : Value}
    (a2 : PySem.W.findIn K (.ref a_Lineage) "put" = some (some (.ref f2))) (i2 : PySem.W.isFn K (.ref f2) = true)
    (l2 : K.lookup f2 = some ⟨oc2, od2, .func (PySem.W.fnOf "put" "Lineage.put" (defArgs s_Lineage_put) (defBody s_Lineage_put) (defScope s_Lineage_put) .none kV2 dc2 pm2 an2 cd2 ct2), sl2⟩) (c2 : PySem.W.codeIn K cd2 "Lineage.put" = true) (k2 : PySem.W.keepIn K (.ref f2) = true)
    {f3 : Addr} {od3 an3 : Option Addr} {sl3 : Array (Option Value)} {oc3 kV3 dc3 pm3 cd3 ct3 : Value}
    (a3 : PySem.W.findIn K (.ref a_Lineage) "enter" = some (some (.ref f3))) (i3 : PySem.W.isFn K (.ref f3) = true)
    (l3 : K.lookup f3 = some ⟨oc3, od3, .func (PySem.W.fnOf "enter" "Lineage.enter" (defArgs s_Lineage_enter) (defBody s_Lineage_enter) (defScope s_Lineage_enter) .none kV3 dc3 pm3 an3 cd3 ct3), sl3⟩) (c3 : PySem.W.codeIn K cd3 "Lineage.enter" = true) (k3 : PySem.W.keepIn K (.ref f3) = true)
    {f4 : Addr} {od4 an4 : Option Addr} {sl4 : Array (Option Value)} {oc4 kV4 dc4 pm4 cd4 ct4 : Value}
    (a4 : PySem.W.findIn K (.ref a_Lineage) "stations" = some (some (.ref f4))) (i4 : PySem.W.isFn K (.ref f4) = true)
    (l4 : K.lookup f4 = some ⟨oc4, od4, .func (PySem.W.fnOf "stations" "Lineage.stations" (defArgs s_Lineage_stations) (defBody s_Lineage_stations) (defScope s_Lineage_stations) .none kV4 dc4 pm4 an4 cd4 ct4), sl4⟩) (c4 : PySem.W.codeIn K cd4 "Lineage.stations" = true) (k4 : PySem.W.keepIn K (.ref f4) = true)
    {f5 : Addr} {od5 an5 : Option Addr} {sl5 : Array (Option Value)} {oc5 kV5 dc5 pm5 cd5 ct5 : Value}
    (a5 : PySem.W.findIn K (.ref a_Lineage) "carriers" = some (some (.ref f5))) (i5 : PySem.W.isFn K (.ref f5) = true)
    (l5 : K.lookup f5 = some ⟨oc5, od5, .func (PySem.W.fnOf "carriers" "Lineage.carriers" (defArgs s_Lineage_carriers) (defBody s_Lineage_carriers) (defScope s_Lineage_carriers) .none kV5 dc5 pm5 an5 cd5 ct5), sl5⟩) (c5 : PySem.W.codeIn K cd5 "Lineage.carriers" = true) (k5 : PySem.W.keepIn K (.ref f5) = true)
    {f6 : Addr} {od6 an6 : Option Addr} {sl6 : Array (Option Value)} {oc6 kV6 dc6 pm6 cd6 ct6 : Value}
    (a6 : PySem.W.findIn K (.ref a_Lineage) "carrier" = some (some (.ref f6))) (i6 : PySem.W.isFn K (.ref f6) = true)
    (l6 : K.lookup f6 = some ⟨oc6, od6, .func (PySem.W.fnOf "carrier" "Lineage.carrier" (defArgs s_Lineage_carrier) (defBody s_Lineage_carrier) (defScope s_Lineage_carrier) .none kV6 dc6 pm6 an6 cd6 ct6), sl6⟩) (c6 : PySem.W.codeIn K cd6 "Lineage.carrier" = true) (k6 : PySem.W.keepIn K (.ref f6) = true)
    {f7 : Addr} {od7 an7 : Option Addr} {sl7 : Array (Option Value)} {oc7 kV7 dc7 pm7 cd7 ct7 : Value}
    (a7 : PySem.W.findIn K (.ref a_Lineage) "entering" = some (some (.ref f7))) (i7 : PySem.W.isFn K (.ref f7) = true)
    (l7 : K.lookup f7 = some ⟨oc7, od7, .func (PySem.W.fnOf "entering" "Lineage.entering" (defArgs s_Lineage_entering) (defBody s_Lineage_entering) (defScope s_Lineage_entering) .none kV7 dc7 pm7 an7 cd7 ct7), sl7⟩) (c7 : PySem.W.codeIn K cd7 "Lineage.entering" = true) (k7 : PySem.W.keepIn K (.ref f7) = true)
    {f8 : Addr} {od8 an8 : Option Addr} {sl8 : Array (Option Value)} {oc8 kV8 dc8 pm8 cd8 ct8 : Value}
    (a8 : PySem.W.findIn K (.ref a_Lineage) "leaving" = some (some (.ref f8))) (i8 : PySem.W.isFn K (.ref f8) = true)
    (l8 : K.lookup f8 = some ⟨oc8, od8, .func (PySem.W.fnOf "leaving" "Lineage.leaving" (defArgs s_Lineage_leaving) (defBody s_Lineage_leaving) (defScope s_Lineage_leaving) .none kV8 dc8 pm8 an8 cd8 ct8), sl8⟩) (c8 : PySem.W.codeIn K cd8 "Lineage.leaving" = true) (k8 : PySem.W.keepIn K (.ref f8) = true)
    {f9 : Addr} {od9 an9 : Option Addr} {sl9 : Array (Option Value)} {oc9 kV9 dc9 pm9 cd9 ct9 : Value}
    (a9 : PySem.W.findIn K (.ref a_Lineage) "outside" = some (some (.ref f9))) (i9 : PySem.W.isFn K (.ref f9) = true)
    (l9 : K.lookup f9 = some ⟨oc9, od9, .func (PySem.W.fnOf "outside" "Lineage.outside" (defArgs s_Lineage_outside) (defBody s_Lineage_outside) (defScope s_Lineage_outside) .none kV9 dc9 pm9 an9 cd9 ct9), sl9⟩) (c9 : PySem.W.codeIn K cd9 "Lineage.outside" = true) (k9 : PySem.W.keepIn K (.ref f9) = true)
    {f10 : Addr} {od10 an10 : Option Addr} {sl10 : Array (Option Value)} {oc10 kV10 dc10 pm10 cd10 ct10 : Value}
    (a10 : PySem.W.findIn K (.ref a_Lineage) "present" = some (some (.ref f10))) (i10 : PySem.W.isFn K (.ref f10) = true)
    (l10 : K.lookup f10 = some ⟨oc10, od10, .func (PySem.W.fnOf "present" "Lineage.present" (defArgs s_Lineage_present) (defBody s_Lineage_present) (defScope s_Lineage_present) .none kV10 dc10 pm10 an10 cd10 ct10), sl10⟩) (c10 : PySem.W.codeIn K cd10 "Lineage.present" = true) (k10 : PySem.W.keepIn K (.ref f10) = true)
    {f11 : Addr} {od11 an11 : Option Addr} {sl11 : Array (Option Value)} {oc11 kV11 dc11 pm11 cd11 ct11 : Value}
    (a11 : PySem.W.nsIn K mainGlobals "_law_cell" = some (some (.ref f11)))
    (l11 : K.lookup f11 = some ⟨oc11, od11, .func (PySem.W.fnOf "_law_cell" "_law_cell" (defArgs s_ulaw_cell) (defBody s_ulaw_cell) (defScope s_ulaw_cell) .none kV11 dc11 pm11 an11 cd11 ct11), sl11⟩) (c11 : PySem.W.codeIn K cd11 "_law_cell" = true) (k11 : PySem.W.keepIn K (.ref f11) = true)
    {f12 : Addr} {od12 an12 : Option Addr} {sl12 : Array (Option Value)} {oc12 kV12 dc12 pm12 cd12 ct12 : Value}
    (a12 : PySem.W.nsIn K mainGlobals "_law_numbers" = some (some (.ref f12)))
    (l12 : K.lookup f12 = some ⟨oc12, od12, .func (PySem.W.fnOf "_law_numbers" "_law_numbers" (defArgs s_ulaw_numbers) (defBody s_ulaw_numbers) (defScope s_ulaw_numbers) .none kV12 dc12 pm12 an12 cd12 ct12), sl12⟩) (c12 : PySem.W.codeIn K cd12 "_law_numbers" = true) (k12 : PySem.W.keepIn K (.ref f12) = true)
    {f13 : Addr} {od13 an13 : Option Addr} {sl13 : Array (Option Value)} {oc13 kV13 dc13 pm13 cd13 ct13 : Value}
    (a13 : PySem.W.nsIn K mainGlobals "_law_draw" = some (some (.ref f13)))
    (l13 : K.lookup f13 = some ⟨oc13, od13, .func (PySem.W.fnOf "_law_draw" "_law_draw" (defArgs s_ulaw_draw) (defBody s_ulaw_draw) (defScope s_ulaw_draw) .none kV13 dc13 pm13 an13 cd13 ct13), sl13⟩) (c13 : PySem.W.codeIn K cd13 "_law_draw" = true) (k13 : PySem.W.keepIn K (.ref f13) = true)
    {f14 : Addr} {od14 an14 : Option Addr} {sl14 : Array (Option Value)} {oc14 kV14 dc14 pm14 cd14 ct14 : Value}
    (a14 : PySem.W.nsIn K mainGlobals "_law_same" = some (some (.ref f14)))
    (l14 : K.lookup f14 = some ⟨oc14, od14, .func (PySem.W.fnOf "_law_same" "_law_same" (defArgs s_ulaw_same) (defBody s_ulaw_same) (defScope s_ulaw_same) .none kV14 dc14 pm14 an14 cd14 ct14), sl14⟩) (c14 : PySem.W.codeIn K cd14 "_law_same" = true) (k14 : PySem.W.keepIn K (.ref f14) = true)
    {f15 : Addr} {od15 an15 : Option Addr} {sl15 : Array (Option Value)} {oc15 kV15 dc15 pm15 cd15 ct15 : Value}
    (a15 : PySem.W.nsIn K mainGlobals "_law_name" = some (some (.ref f15)))
    (l15 : K.lookup f15 = some ⟨oc15, od15, .func (PySem.W.fnOf "_law_name" "_law_name" (defArgs s_ulaw_name) (defBody s_ulaw_name) (defScope s_ulaw_name) .none kV15 dc15 pm15 an15 cd15 ct15), sl15⟩) (c15 : PySem.W.codeIn K cd15 "_law_name" = true) (k15 : PySem.W.keepIn K (.ref f15) = true)
    {f16 : Addr} {od16 an16 : Option Addr} {sl16 : Array (Option Value)} {oc16 kV16 dc16 pm16 cd16 ct16 : Value}
    (a16 : PySem.W.nsIn K mainGlobals "_law_amount" = some (some (.ref f16)))
    (l16 : K.lookup f16 = some ⟨oc16, od16, .func (PySem.W.fnOf "_law_amount" "_law_amount" (defArgs s_ulaw_amount) (defBody s_ulaw_amount) (defScope s_ulaw_amount) .none kV16 dc16 pm16 an16 cd16 ct16), sl16⟩) (c16 : PySem.W.codeIn K cd16 "_law_amount" = true) (k16 : PySem.W.keepIn K (.ref f16) = true)
    {f17 : Addr} {od17 an17 : Option Addr} {sl17 : Array (Option Value)} {oc17 kV17 dc17 pm17 cd17 ct17 : Value}
    (a17 : PySem.W.nsIn K mainGlobals "_law_open" = some (some (.ref f17)))
    (l17 : K.lookup f17 = some ⟨oc17, od17, .func (PySem.W.fnOf "_law_open" "_law_open" (defArgs s_ulaw_open) (defBody s_ulaw_open) (defScope s_ulaw_open) .none kV17 dc17 pm17 an17 cd17 ct17), sl17⟩) (c17 : PySem.W.codeIn K cd17 "_law_open" = true) (k17 : PySem.W.keepIn K (.ref f17) = true)
    {f18 : Addr} {od18 an18 : Option Addr} {sl18 : Array (Option Value)} {oc18 kV18 dc18 pm18 cd18 ct18 : Value}
    (a18 : PySem.W.nsIn K mainGlobals "_law_add" = some (some (.ref f18)))
    (l18 : K.lookup f18 = some ⟨oc18, od18, .func (PySem.W.fnOf "_law_add" "_law_add" (defArgs s_ulaw_add) (defBody s_ulaw_add) (defScope s_ulaw_add) .none kV18 dc18 pm18 an18 cd18 ct18), sl18⟩) (c18 : PySem.W.codeIn K cd18 "_law_add" = true) (k18 : PySem.W.keepIn K (.ref f18) = true)
    {f19 : Addr} {od19 an19 : Option Addr} {sl19 : Array (Option Value)} {oc19 kV19 dc19 pm19 cd19 ct19 : Value}
    (a19 : PySem.W.nsIn K mainGlobals "_law_enter" = some (some (.ref f19)))
    (l19 : K.lookup f19 = some ⟨oc19, od19, .func (PySem.W.fnOf "_law_enter" "_law_enter" (defArgs s_ulaw_enter) (defBody s_ulaw_enter) (defScope s_ulaw_enter) .none kV19 dc19 pm19 an19 cd19 ct19), sl19⟩) (c19 : PySem.W.codeIn K cd19 "_law_enter" = true) (k19 : PySem.W.keepIn K (.ref f19) = true)
    {f20 : Addr} {od20 an20 : Option Addr} {sl20 : Array (Option Value)} {oc20 kV20 dc20 pm20 cd20 ct20 : Value}
    (a20 : PySem.W.nsIn K mainGlobals "_law_call" = some (some (.ref f20)))
    (l20 : K.lookup f20 = some ⟨oc20, od20, .func (PySem.W.fnOf "_law_call" "_law_call" (defArgs s_ulaw_call) (defBody s_ulaw_call) (defScope s_ulaw_call) .none kV20 dc20 pm20 an20 cd20 ct20), sl20⟩) (c20 : PySem.W.codeIn K cd20 "_law_call" = true) (k20 : PySem.W.keepIn K (.ref f20) = true)
    {f21 : Addr} {od21 an21 : Option Addr} {sl21 : Array (Option Value)} {oc21 kV21 dc21 pm21 cd21 ct21 : Value}
    (a21 : PySem.W.nsIn K mainGlobals "_law_as_due" = some (some (.ref f21)))
    (l21 : K.lookup f21 = some ⟨oc21, od21, .func (PySem.W.fnOf "_law_as_due" "_law_as_due" (defArgs s_ulaw_as_due) (defBody s_ulaw_as_due) (defScope s_ulaw_as_due) .none kV21 dc21 pm21 an21 cd21 ct21), sl21⟩) (c21 : PySem.W.codeIn K cd21 "_law_as_due" = true) (k21 : PySem.W.keepIn K (.ref f21) = true)
    {f22 : Addr} {od22 an22 : Option Addr} {sl22 : Array (Option Value)} {oc22 kV22 dc22 pm22 cd22 ct22 : Value}
    (a22 : PySem.W.nsIn K mainGlobals "law" = some (some (.ref f22)))
    (l22 : K.lookup f22 = some ⟨oc22, od22, .func (PySem.W.fnOf "law" "law" (defArgs s_law) (defBody s_law) (defScope s_law) .none kV22 dc22 pm22 an22 cd22 ct22), sl22⟩) (c22 : PySem.W.codeIn K cd22 "law" = true) (k22 : PySem.W.keepIn K (.ref f22) = true)
    (z_len : PySem.W.nsIn K mainGlobals "len" = some none)
    (z_list : PySem.W.nsIn K mainGlobals "list" = some none)
    (z_sorted : PySem.W.nsIn K mainGlobals "sorted" = some none)
    (z_enumerate : PySem.W.nsIn K mainGlobals "enumerate" = some none)
    (z_range : PySem.W.nsIn K mainGlobals "range" = some none)
    (z_int : PySem.W.nsIn K mainGlobals "int" = some none)
    (z_abs : PySem.W.nsIn K mainGlobals "abs" = some none)
    (z_isinstance : PySem.W.nsIn K mainGlobals "isinstance" = some none)
    (z_tuple : PySem.W.nsIn K mainGlobals "tuple" = some none)
    (z_bool : PySem.W.nsIn K mainGlobals "bool" = some none)
    (z_str : PySem.W.nsIn K mainGlobals "str" = some none)
    (z_min : PySem.W.nsIn K mainGlobals "min" = some none)
    (z_max : PySem.W.nsIn K mainGlobals "max" = some none)
    : ∃ fd : FuncData, (∀ (s : Shared) (v : Value), BindsTo s fd ⟨[v], []⟩ [("script", v)]) ∧ ∀ base : Heap, K.In base → base.Ns mainGlobals mg → FnOk l.prog wd K mg base CX0 12 fa fd ["script"] (spD K spLaw) := by
  have e := hfa.symm.trans (PySem.W.mg_of X G a22)
  cases e
  have z : Bl mg := ⟨PySem.W.mg_none_of X G z_len, PySem.W.mg_none_of X G z_list, PySem.W.mg_none_of X G z_sorted, PySem.W.mg_none_of X G z_enumerate, PySem.W.mg_none_of X G z_range, PySem.W.mg_none_of X G z_int, PySem.W.mg_none_of X G z_abs, PySem.W.mg_none_of X G z_isinstance, PySem.W.mg_none_of X G z_tuple, PySem.W.mg_none_of X G z_bool, PySem.W.mg_none_of X G z_str, PySem.W.mg_none_of X G z_min, PySem.W.mg_none_of X G z_max⟩
  have T_Lineage : Cls K a_Lineage := ⟨pg_Lineage, hd_Lineage, po_Lineage, sa_Lineage⟩
  have F0 := fun_mk (st := s_Lineage_uinit__) l0 c0 k0
  have F1 := fun_mk (st := s_Lineage_station) l1 c1 k1
  have F2 := fun_mk (st := s_Lineage_put) l2 c2 k2
  have F3 := fun_mk (st := s_Lineage_enter) l3 c3 k3
  have F4 := fun_mk (st := s_Lineage_stations) l4 c4 k4
  have F5 := fun_mk (st := s_Lineage_carriers) l5 c5 k5
  have F6 := fun_mk (st := s_Lineage_carrier) l6 c6 k6
  have F7 := fun_mk (st := s_Lineage_entering) l7 c7 k7
  have F8 := fun_mk (st := s_Lineage_leaving) l8 c8 k8
  have F9 := fun_mk (st := s_Lineage_outside) l9 c9 k9
  have F10 := fun_mk (st := s_Lineage_present) l10 c10 k10
  have F11 := fun_mk (st := s_ulaw_cell) l11 c11 k11
  have F12 := fun_mk (st := s_ulaw_numbers) l12 c12 k12
  have F13 := fun_mk (st := s_ulaw_draw) l13 c13 k13
  have F14 := fun_mk (st := s_ulaw_same) l14 c14 k14
  have F15 := fun_mk (st := s_ulaw_name) l15 c15 k15
  have F16 := fun_mk (st := s_ulaw_amount) l16 c16 k16
  have F17 := fun_mk (st := s_ulaw_open) l17 c17 k17
  have F18 := fun_mk (st := s_ulaw_add) l18 c18 k18
  have F19 := fun_mk (st := s_ulaw_enter) l19 c19 k19
  have F20 := fun_mk (st := s_ulaw_call) l20 c20 k20
  have F21 := fun_mk (st := s_ulaw_as_due) l21 c21 k21
  have F22 := fun_mk (st := s_law) l22 c22 k22
  refine ⟨PySem.W.fnOf "law" "law" (defArgs s_law) (defBody s_law) (defScope s_law) .none kV22 dc22 pm22 an22 cd22 ct22, fun s v => .of_eq rfl, fun base _ _ => ?_⟩
  have C_Lineage_uinit__ : CalM l.prog wd K mg base "Lineage" a_Lineage 1 ["self"] (spM K (sp_Lineage_uinit__ a_Lineage)) := ⟨f0, _, ⟨mk_Lineage, a0, i0, kc_Lineage⟩, ok_Lineage_uinit__ z T_Lineage n_Lineage_uouts n_Lineage_uins n_Lineage_ucarriers F0, PySem.W.mg_of X G g_Lineage, F0.binds (ps := ["self"]) fun _ _ _ _ _ _ us hl => match us, hl with | [_], _ => rfl⟩
  have C_Lineage_station : CalE l.prog wd K mg base a_Lineage "station" 1 ["self"] (spM K (sp_Lineage_station a_Lineage)) := ⟨f1, _, T_Lineage, ⟨a1, i1, k1⟩, ok_Lineage_station z T_Lineage n_Lineage_uins n_Lineage_uouts F1, F1.binds (ps := ["self"]) fun _ _ _ _ _ _ us hl => match us, hl with | [_], _ => rfl⟩
  have C_Lineage_put : CalE l.prog wd K mg base a_Lineage "put" 1 ["self", "name", "amount", "maker"] (spM K (sp_Lineage_put a_Lineage)) := ⟨f2, _, T_Lineage, ⟨a2, i2, k2⟩, ok_Lineage_put z T_Lineage n_Lineage_uouts n_Lineage_ucarriers F2, F2.binds (ps := ["self", "name", "amount", "maker"]) fun _ _ _ _ _ _ us hl => match us, hl with | [_, _, _, _], _ => rfl⟩
  have C_Lineage_enter : CalE l.prog wd K mg base a_Lineage "enter" 1 ["self", "index", "station"] (spM K (sp_Lineage_enter a_Lineage)) := ⟨f3, _, T_Lineage, ⟨a3, i3, k3⟩, ok_Lineage_enter z T_Lineage n_Lineage_uins n_Lineage_ucarriers F3, F3.binds (ps := ["self", "index", "station"]) fun _ _ _ _ _ _ us hl => match us, hl with | [_, _, _], _ => rfl⟩
  have C_Lineage_stations : CalE l.prog wd K mg base a_Lineage "stations" 1 ["self"] (spD K (sp_Lineage_stations a_Lineage)) := ⟨f4, _, T_Lineage, ⟨a4, i4, k4⟩, ok_Lineage_stations z T_Lineage n_Lineage_uins F4, F4.binds (ps := ["self"]) fun _ _ _ _ _ _ us hl => match us, hl with | [_], _ => rfl⟩
  have C_Lineage_carriers : CalE l.prog wd K mg base a_Lineage "carriers" 1 ["self"] (spD K (sp_Lineage_carriers a_Lineage)) := ⟨f5, _, T_Lineage, ⟨a5, i5, k5⟩, ok_Lineage_carriers z T_Lineage n_Lineage_ucarriers F5, F5.binds (ps := ["self"]) fun _ _ _ _ _ _ us hl => match us, hl with | [_], _ => rfl⟩
  have C_Lineage_carrier : CalE l.prog wd K mg base a_Lineage "carrier" 1 ["self", "index"] (spD K (sp_Lineage_carrier a_Lineage)) := ⟨f6, _, T_Lineage, ⟨a6, i6, k6⟩, ok_Lineage_carrier z T_Lineage n_Lineage_ucarriers F6, F6.binds (ps := ["self", "index"]) fun _ _ _ _ _ _ us hl => match us, hl with | [_, _], _ => rfl⟩
  have C_Lineage_entering : CalE l.prog wd K mg base a_Lineage "entering" 1 ["self", "station"] (spD K (sp_Lineage_entering a_Lineage)) := ⟨f7, _, T_Lineage, ⟨a7, i7, k7⟩, ok_Lineage_entering z T_Lineage n_Lineage_uins F7, F7.binds (ps := ["self", "station"]) fun _ _ _ _ _ _ us hl => match us, hl with | [_, _], _ => rfl⟩
  have C_Lineage_leaving : CalE l.prog wd K mg base a_Lineage "leaving" 1 ["self", "station"] (spD K (sp_Lineage_leaving a_Lineage)) := ⟨f8, _, T_Lineage, ⟨a8, i8, k8⟩, ok_Lineage_leaving z T_Lineage n_Lineage_uouts F8, F8.binds (ps := ["self", "station"]) fun _ _ _ _ _ _ us hl => match us, hl with | [_, _], _ => rfl⟩
  have C_Lineage_outside : CalE l.prog wd K mg base a_Lineage "outside" 1 ["self"] (spD K (sp_Lineage_outside a_Lineage)) := ⟨f9, _, T_Lineage, ⟨a9, i9, k9⟩, ok_Lineage_outside z T_Lineage n_Lineage_ucarriers F9, F9.binds (ps := ["self"]) fun _ _ _ _ _ _ us hl => match us, hl with | [_], _ => rfl⟩
  have C_Lineage_present : CalE l.prog wd K mg base a_Lineage "present" 1 ["self"] (spD K (sp_Lineage_present a_Lineage)) := ⟨f10, _, T_Lineage, ⟨a10, i10, k10⟩, ok_Lineage_present z T_Lineage n_Lineage_ucarriers F10, F10.binds (ps := ["self"]) fun _ _ _ _ _ _ us hl => match us, hl with | [_], _ => rfl⟩
  have C_ulaw_cell : Cal l.prog wd K mg base "_law_cell" 1 ["script", "k"] (spD K (sp_ulaw_cell a_Lineage)) := ⟨f11, _, ok_ulaw_cell z  F11, PySem.W.mg_of X G a11, F11.kp, F11.binds (ps := ["script", "k"]) fun _ _ _ _ _ _ us hl => match us, hl with | [_, _], _ => rfl⟩
  have C_ulaw_numbers : Cal l.prog wd K mg base "_law_numbers" 1 ["cell", "many"] (spD K (sp_ulaw_numbers a_Lineage)) := ⟨f12, _, ok_ulaw_numbers z  F12, PySem.W.mg_of X G a12, F12.kp, F12.binds (ps := ["cell", "many"]) fun _ _ _ _ _ _ us hl => match us, hl with | [_, _], _ => rfl⟩
  have C_ulaw_draw : Cal l.prog wd K mg base "_law_draw" 2 ["script", "k", "many"] (spD K (sp_ulaw_draw a_Lineage)) := ⟨f13, _, ok_ulaw_draw z C_ulaw_numbers C_ulaw_cell F13, PySem.W.mg_of X G a13, F13.kp, F13.binds (ps := ["script", "k", "many"]) fun _ _ _ _ _ _ us hl => match us, hl with | [_, _, _], _ => rfl⟩
  have R_ulaw_same : ∀ n : Nat, Cal l.prog wd K mg base "_law_same" (n + 1) ["told", "due"] (spD K (sp_ulaw_same a_Lineage n)) := fun n => by
    induction n with
    | zero => exact ⟨f14, _, fnok_no F14 sc_ulaw_same no_ulaw_same, PySem.W.mg_of X G a14, F14.kp, F14.binds (ps := ["told", "due"]) fun _ _ _ _ _ _ us hl => match us, hl with | [_, _], _ => rfl⟩
    | succ n ih => rw [show n + 1 + 1 = n + 2 by omega]; exact ⟨f14, _, ok_ulaw_same n z ih F14, PySem.W.mg_of X G a14, F14.kp, F14.binds (ps := ["told", "due"]) fun _ _ _ _ _ _ us hl => match us, hl with | [_, _], _ => rfl⟩
  have C_ulaw_same := R_ulaw_same 8
  have C_ulaw_name : Cal l.prog wd K mg base "_law_name" 1 ["n"] (spD K (sp_ulaw_name a_Lineage)) := ⟨f15, _, ok_ulaw_name z  F15, PySem.W.mg_of X G a15, F15.kp, F15.binds (ps := ["n"]) fun _ _ _ _ _ _ us hl => match us, hl with | [_], _ => rfl⟩
  have C_ulaw_amount : Cal l.prog wd K mg base "_law_amount" 1 ["n"] (spD K (sp_ulaw_amount a_Lineage)) := ⟨f16, _, ok_ulaw_amount z  F16, PySem.W.mg_of X G a16, F16.kp, F16.binds (ps := ["n"]) fun _ _ _ _ _ _ us hl => match us, hl with | [_], _ => rfl⟩
  have C_ulaw_open : Cal l.prog wd K mg base "_law_open" 1 ["book"] (spD K (sp_ulaw_open a_Lineage)) := ⟨f17, _, ok_ulaw_open z  F17, PySem.W.mg_of X G a17, F17.kp, F17.binds (ps := ["book"]) fun _ _ _ _ _ _ us hl => match us, hl with | [_], _ => rfl⟩
  have C_ulaw_add : Cal l.prog wd K mg base "_law_add" 10 ["lineage", "book", "n", "maker"] (spM K (sp_ulaw_add a_Lineage)) := ⟨f18, _, ok_ulaw_add z C_ulaw_same C_Lineage_carrier C_Lineage_put C_ulaw_amount C_ulaw_name F18, PySem.W.mg_of X G a18, F18.kp, F18.binds (ps := ["lineage", "book", "n", "maker"]) fun _ _ _ _ _ _ us hl => match us, hl with | [_, _, _, _], _ => rfl⟩
  have C_ulaw_enter : Cal l.prog wd K mg base "_law_enter" 10 ["lineage", "book", "n"] (spM K (sp_ulaw_enter a_Lineage)) := ⟨f19, _, ok_ulaw_enter z C_ulaw_same C_Lineage_carrier C_Lineage_enter C_ulaw_open F19, PySem.W.mg_of X G a19, F19.kp, F19.binds (ps := ["lineage", "book", "n"]) fun _ _ _ _ _ _ us hl => match us, hl with | [_, _, _], _ => rfl⟩
  have C_ulaw_call : Cal l.prog wd K mg base "_law_call" 11 ["lineage", "book", "n"] (spM K (sp_ulaw_call a_Lineage)) := ⟨f20, _, ok_ulaw_call z C_ulaw_add C_ulaw_open C_ulaw_enter C_ulaw_same C_Lineage_station F20, PySem.W.mg_of X G a20, F20.kp, F20.binds (ps := ["lineage", "book", "n"]) fun _ _ _ _ _ _ us hl => match us, hl with | [_, _, _], _ => rfl⟩
  have C_ulaw_as_due : Cal l.prog wd K mg base "_law_as_due" 10 ["lineage", "book"] (spD K (sp_ulaw_as_due a_Lineage)) := ⟨f21, _, ok_ulaw_as_due z C_ulaw_same C_Lineage_carrier C_Lineage_stations C_Lineage_leaving C_Lineage_entering C_ulaw_open C_Lineage_present C_Lineage_outside C_Lineage_carriers F21, PySem.W.mg_of X G a21, F21.kp, F21.binds (ps := ["lineage", "book"]) fun _ _ _ _ _ _ us hl => match us, hl with | [_, _], _ => rfl⟩
  exact ok_law z C_ulaw_as_due C_ulaw_call C_ulaw_draw C_ulaw_numbers C_Lineage_uinit__ C_ulaw_cell F22
end Law
open PySem PySem.W PyProof.Rows
set_option maxRecDepth 100000 in
set_option maxHeartbeats 0 in
theorem PySem.Challenge.cw_oathcoin_k68_carriers_holds : PySem.Challenge.rw_oathcoin_k68_carriers.Holds := by
  w_on; o_law; k_head; (case hw => w_witness2)
  k_fill
  refine L2.walk_of (l := PySem.Challenge.rw_oathcoin_k68_carriers) (n := 63) (k := 12) (x := "script") (CX := fun _ => L2.CX0) (sp := fun w => DL.spD _ DL.spLaw) rfl (by decide) rfl ⟨rfl, by decide, by decide⟩ (fun w h Y => PySem.W.kIn_of Y) ?F (fun _ _ a ns hl _ hS => DL.law_end hl hS) (fun _ _ _ _ _ h => h)
  case F =>
    intro w mg fa h KX G hmg
    refine' Law.all_mk KX G hmg ?g_Lineage ?pg_Lineage ?hd_Lineage ?po_Lineage ?sa_Lineage ?mk_Lineage ?kc_Lineage ?n_Lineage_uouts ?n_Lineage_uins ?n_Lineage_ucarriers ?a0 ?i0 ?l0 ?c0 ?k0 ?a1 ?i1 ?l1 ?c1 ?k1 ?a2 ?i2 ?l2 ?c2 ?k2 ?a3 ?i3 ?l3 ?c3 ?k3 ?a4 ?i4 ?l4 ?c4 ?k4 ?a5 ?i5 ?l5 ?c5 ?k5 ?a6 ?i6 ?l6 ?c6 ?k6 ?a7 ?i7 ?l7 ?c7 ?k7 ?a8 ?i8 ?l8 ?c8 ?k8 ?a9 ?i9 ?l9 ?c9 ?k9 ?a10 ?i10 ?l10 ?c10 ?k10 ?a11 ?l11 ?c11 ?k11 ?a12 ?l12 ?c12 ?k12 ?a13 ?l13 ?c13 ?k13 ?a14 ?l14 ?c14 ?k14 ?a15 ?l15 ?c15 ?k15 ?a16 ?l16 ?c16 ?k16 ?a17 ?l17 ?c17 ?k17 ?a18 ?l18 ?c18 ?k18 ?a19 ?l19 ?c19 ?k19 ?a20 ?l20 ?c20 ?k20 ?a21 ?l21 ?c21 ?k21 ?a22 ?l22 ?c22 ?k22 ?z_len ?z_list ?z_sorted ?z_enumerate ?z_range ?z_int ?z_abs ?z_isinstance ?z_tuple ?z_bool ?z_str ?z_min ?z_max
    (case g_Lineage => k_is)
    (case pg_Lineage => k_is)
    (case hd_Lineage => k_is)
    (case po_Lineage => k_is)
    (case sa_Lineage => k_is)
    (case mk_Lineage => k_is)
    (case kc_Lineage => k_is)
    (case n_Lineage_uouts => k_is)
    (case n_Lineage_uins => k_is)
    (case n_Lineage_ucarriers => k_is)
    (case a0 => k_is)
    (case i0 => k_is)
    (case l0 => k_is)
    (case c0 => k_is)
    (case k0 => k_is)
    (case a1 => k_is)
    (case i1 => k_is)
    (case l1 => k_is)
    (case c1 => k_is)
    (case k1 => k_is)
    (case a2 => k_is)
    (case i2 => k_is)
    (case l2 => k_is)
    (case c2 => k_is)
    (case k2 => k_is)
    (case a3 => k_is)
    (case i3 => k_is)
    (case l3 => k_is)
    (case c3 => k_is)
    (case k3 => k_is)
    (case a4 => k_is)
    (case i4 => k_is)
    (case l4 => k_is)
    (case c4 => k_is)
    (case k4 => k_is)
    (case a5 => k_is)
    (case i5 => k_is)
    (case l5 => k_is)
    (case c5 => k_is)
    (case k5 => k_is)
    (case a6 => k_is)
    (case i6 => k_is)
    (case l6 => k_is)
    (case c6 => k_is)
    (case k6 => k_is)
    (case a7 => k_is)
    (case i7 => k_is)
    (case l7 => k_is)
    (case c7 => k_is)
    (case k7 => k_is)
    (case a8 => k_is)
    (case i8 => k_is)
    (case l8 => k_is)
    (case c8 => k_is)
    (case k8 => k_is)
    (case a9 => k_is)
    (case i9 => k_is)
    (case l9 => k_is)
    (case c9 => k_is)
    (case k9 => k_is)
    (case a10 => k_is)
    (case i10 => k_is)
    (case l10 => k_is)
    (case c10 => k_is)
    (case k10 => k_is)
    (case a11 => k_is)
    (case l11 => k_is)
    (case c11 => k_is)
    (case k11 => k_is)
    (case a12 => k_is)
    (case l12 => k_is)
    (case c12 => k_is)
    (case k12 => k_is)
    (case a13 => k_is)
    (case l13 => k_is)
    (case c13 => k_is)
    (case k13 => k_is)
    (case a14 => k_is)
    (case l14 => k_is)
    (case c14 => k_is)
    (case k14 => k_is)
    (case a15 => k_is)
    (case l15 => k_is)
    (case c15 => k_is)
    (case k15 => k_is)
    (case a16 => k_is)
    (case l16 => k_is)
    (case c16 => k_is)
    (case k16 => k_is)
    (case a17 => k_is)
    (case l17 => k_is)
    (case c17 => k_is)
    (case k17 => k_is)
    (case a18 => k_is)
    (case l18 => k_is)
    (case c18 => k_is)
    (case k18 => k_is)
    (case a19 => k_is)
    (case l19 => k_is)
    (case c19 => k_is)
    (case k19 => k_is)
    (case a20 => k_is)
    (case l20 => k_is)
    (case c20 => k_is)
    (case k20 => k_is)
    (case a21 => k_is)
    (case l21 => k_is)
    (case c21 => k_is)
    (case k21 => k_is)
    (case a22 => k_is)
    (case l22 => k_is)
    (case c22 => k_is)
    (case k22 => k_is)
    (case z_len => k_is)
    (case z_list => k_is)
    (case z_sorted => k_is)
    (case z_enumerate => k_is)
    (case z_range => k_is)
    (case z_int => k_is)
    (case z_abs => k_is)
    (case z_isinstance => k_is)
    (case z_tuple => k_is)
    (case z_bool => k_is)
    (case z_str => k_is)
    (case z_min => k_is)
    (case z_max => k_is)
#print axioms PySem.Challenge.cw_oathcoin_k68_carriers_holds
